/- Walks, printed by mill.py. -/
import Derived.Test.YtnnijoepfgnlfaaDoorOoA
import Derived.Test.YtnnijoepfgnlfaaDoorOoB
import Derived.Test.YtnnijoepfgnlfaaDoorOoC
import Derived.Test.YtnnijoepfgnlfaaDoorOoD
import Derived.Test.YtnnijoepfgnlfaaDoorOoE
set_option linter.unusedVariables false
set_option linter.unusedSimpArgs false

namespace Go.Proofs.Q
open Go.Sy
set_option maxRecDepth 4000
theorem zbi : ∀ {a_x : GMk} {a_e : Int} {zH : Nat} {zah : Vt} {r : GMk}, zaO a_x a_e = some r → Ctr Tryd.prog 100 [ptrv zH (Fld.id (GMod × Vh × Int)), isv (a_e)] [boxE zH ((a_x.m, (Vh.mk zah a_x.l.length), a_x.e) : (GMod × Vh × Int)), vecE zah (a_x.l : List GTyp)] (fun R H => R = oneOf [] ∧ H = [boxE zH ((r.m, (Vh.mk zah r.l.length), r.e)), vecE zah (r.l)]) := by
 intro a_x a_e zH zah r h
 unfold zaO at h
 refine zu Tryd.func100 rfl fun w0 S0 hT => wsr (oM rfl (oV (zw rfl) (oV (zaj rfl zck zdC) (oT (zL (R := isv (a_x.e)) ty31 rfl .here hI (oV (zao rfl rfl) (rnf (zg h rfl (fun _ h => ?_) (fun _ h => ?_)))))))))
 ·refine zh (oM rfl (oM rfl (oV (zw rfl) (oV (zaj rfl zck zdC) (oT (zk (y' := ((a_x.m, (Vh.mk zah a_x.l.length), a_e) : (GMod × Vh × Int))) ty31 rfl rfl hI .here rfl (zx (zam .nil k2 ?_))))))))
  cases h
  exact ⟨rfl, rfl⟩
 refine zab (zam .nil k2 ?_)
 cases h
 exact ⟨rfl, rfl⟩


theorem zip : ∀ {zd2 : Int} {r : Tag}, zdz zd2 = some r → Ctr Tryd.prog 101 [isv (zd2)] [] (fun R H => R = oneOf [isv (r)] ∧ H = []) := by
 intro zd2 r h
 unfold zdz at h
 refine zu Tryd.func101 rfl fun w0 S0 hT => wsr (oT (zag _ ze57 fun b1 => rnf (zj (wsr (oM rfl (rnf (zt ?_)))))))
 refine wsr (oV (zao rfl rfl) (oA rfl (rnf (zg h rfl (fun _ h => ?_) (fun _ h => ?_)))))
 ·refine wsr (oV (zaE (z := (Tag.mk (0 : Int) (1 : Int))) rfl bu57 ze57 (.cons Tag.f1 zem rfl hI .nil)) (oT (zk (y' := ((Tag.mk (0 : Int) (1 : Int)) : Tag)) ty57 rfl rfl hI .here rfl (rnf (zK (zG (zB ?_)))))))
  cases h
  exact zo (.cell rfl .here ty57 .nil) .nil ⟨rfl, rfl⟩
 refine wsr (oV (zao rfl rfl) (oA rfl (rnf (zg h rfl (fun _ h => ?_) (fun _ h => ?_)))))
 ·refine wsr (oV (zaE (z := (Tag.mk (0 : Int) (2 : Int))) rfl bu57 ze57 (.cons Tag.f1 zem rfl hI .nil)) (oT (zk (y' := ((Tag.mk (0 : Int) (2 : Int)) : Tag)) ty57 rfl rfl hI .here rfl (rnf (zK (zG (zB ?_)))))))
  cases h
  exact zo (.cell rfl .here ty57 .nil) .nil ⟨rfl, rfl⟩
 refine wsr (oV (zao rfl rfl) (oA rfl (rnf (zg h rfl (fun _ h => ?_) (fun _ h => ?_)))))
 ·refine wsr (oV (zaE (z := (Tag.mk (0 : Int) (4 : Int))) rfl bu57 ze57 (.cons Tag.f1 zem rfl hI .nil)) (oT (zk (y' := ((Tag.mk (0 : Int) (4 : Int)) : Tag)) ty57 rfl rfl hI .here rfl (rnf (zK (zG (zB ?_)))))))
  cases h
  exact zo (.cell rfl .here ty57 .nil) .nil ⟨rfl, rfl⟩
 refine wsr (oV (zao rfl rfl) (oA rfl (rnf (zg h rfl (fun _ h => ?_) (fun _ h => ?_)))))
 ·refine wsr (oV (zaE (z := (Tag.mk (0 : Int) (5 : Int))) rfl bu57 ze57 (.cons Tag.f1 zem rfl hI .nil)) (oT (zk (y' := ((Tag.mk (0 : Int) (5 : Int)) : Tag)) ty57 rfl rfl hI .here rfl (rnf (zK (zG (zB ?_)))))))
  cases h
  exact zo (.cell rfl .here ty57 .nil) .nil ⟨rfl, rfl⟩
 refine wsr (oV (zao rfl rfl) (oA rfl (rnf (zg h rfl (fun _ h => ?_) (fun _ h => ?_)))))
 ·refine wsr (oV (zaE (z := (Tag.mk (0 : Int) (10 : Int))) rfl bu57 ze57 (.cons Tag.f1 zem rfl hI .nil)) (oT (zk (y' := ((Tag.mk (0 : Int) (10 : Int)) : Tag)) ty57 rfl rfl hI .here rfl (rnf (zK (zG (zB ?_)))))))
  cases h
  exact zo (.cell rfl .here ty57 .nil) .nil ⟨rfl, rfl⟩
 refine wsr (oV (zao rfl rfl) (oA rfl (rnf (zg h rfl (fun _ h => ?_) (fun _ h => ?_)))))
 ·refine wsr (oV (zaE (z := (Tag.mk (0 : Int) (12 : Int))) rfl bu57 ze57 (.cons Tag.f1 zem rfl hI .nil)) (oT (zk (y' := ((Tag.mk (0 : Int) (12 : Int)) : Tag)) ty57 rfl rfl hI .here rfl (rnf (zK (zG (zB ?_)))))))
  cases h
  exact zo (.cell rfl .here ty57 .nil) .nil ⟨rfl, rfl⟩
 refine zj (wsr (oV (zao rfl rfl) (oA rfl (rnf (zdx (jb 22) je .nil h (fun q2 g2 h => ?_) (fun J3 h hJ3 => ?_))))))
 ·refine zg h rfl (fun _ h => ?_) (fun _ h => ?_)
  ·refine wsr (oV (zaE (z := (Tag.mk (0 : Int) (16 : Int))) rfl bu57 ze57 (.cons Tag.f1 zem rfl hI .nil)) (oT (zk (y' := ((Tag.mk (0 : Int) (16 : Int)) : Tag)) ty57 rfl rfl hI .here rfl (rnf (zK (zG (zB ?_)))))))
   cases h
   exact zo (.cell rfl .here ty57 .nil) .nil ⟨rfl, rfl⟩
  refine wsr (oV (zao rfl rfl) (oA rfl (rnf (zg h rfl (fun _ h => ?_) (fun _ h => ?_)))))
  ·refine wsr (oV (zaE (z := (Tag.mk (0 : Int) (17 : Int))) rfl bu57 ze57 (.cons Tag.f1 zem rfl hI .nil)) (oT (zk (y' := ((Tag.mk (0 : Int) (17 : Int)) : Tag)) ty57 rfl rfl hI .here rfl (rnf (zK (zG (zB ?_)))))))
   cases h
   exact zo (.cell rfl .here ty57 .nil) .nil ⟨rfl, rfl⟩
  refine zab (zi (zy (wsr (oV (zaE (z := (Tag.mk (0 : Int) (0 : Int))) rfl bu57 ze57 .nil) (oT (zk (y' := ((Tag.mk (0 : Int) (0 : Int)) : Tag)) ty57 rfl rfl hI .here rfl (rnf (zK ?_))))))))
  cases h
  exact zo (.cell rfl .here ty57 .nil) .nil ⟨rfl, rfl⟩
 refine zg h rfl (fun _ h => ?_) (fun _ h => ?_)
 ·exact zab (hJ3 _ () h _ (jk 0 22 rfl rfl rfl))
 exact zh (oV (zao rfl rfl) (oA rfl (zx (hJ3 _ () h _ (jk 2 22 rfl rfl rfl)))))


theorem zkR : ∀ {a_c : GCon} {zi1 : Bool} {r : Int}, zfJ a_c zi1 = some r → Ctr Tryd.prog 102 [isv (a_c), isv (zi1)] [] (fun R H => R = oneOf [isv (r)] ∧ H = []) := by
 intro a_c zi1 r h
 unfold zfJ at h
 refine zu Tryd.func102 rfl fun w0 S0 hT => wsr (oT (zbd (y := a_c) rfl hI (oA rfl (rnf (zj (wsr (oV (zZ rfl GCon.f0 zlU rfl (z := a_c.has)) (oV (zf ty4 rfl) ?_))))))))
 refine oV (zbt rfl) (rnf (zg h rfl (fun _ h => ?_) (fun _ h => ?_)))
 ·refine wsr (oA rfl (rnf (zK (zB ?_))))
  cases h
  exact zo (.tmp rfl .nil) .nil ⟨rfl, rfl⟩
 refine wkf (zj (wsr (oV (zZ rfl GCon.f1 ziJ rfl (z := a_c.hasLow)) (oV (zf ty4 rfl) (oM rfl (zaz (jb 13) je .nil h 3 rfl (fun q1 g1 h => ?_) (fun J2 h hJ2 => ?_)))))))
 ·refine oM rfl (zaz (jb 20) je .nil h 6 rfl (fun q4 g4 h => ?_) (fun J5 h hJ5 => ?_))
  ·refine rnf (zg h rfl (fun _ h => ?_) (fun _ h => ?_))
   ·refine wsr (oA rfl (rnf (zK (zB ?_))))
    cases h
    exact zo (.tmp rfl .nil) .nil ⟨rfl, rfl⟩
   refine wkf (zj (wsr (oM rfl (oM rfl (zaz (jb 50) je .nil h 28 rfl (fun q7 g7 h => ?_) (fun J8 h hJ8 => ?_))))))
   ·refine rnf (zg h rfl (fun _ h => ?_) (fun _ h => ?_))
    ·refine wsr (oA rfl (rnf (zK (zB ?_))))
     cases h
     exact zo (.tmp rfl .nil) .nil ⟨rfl, rfl⟩
    refine wkf (wsr (oA rfl (rnf (zK ?_))))
    cases h
    exact zo (.tmp rfl .nil) .nil ⟨rfl, rfl⟩
   refine zC (j := 22) h rfl (fun g9 h => ?_) (fun g9 h => ?_)
   ·refine oK 22 rfl rfl rfl g9 (zZ rfl GCon.f1 ziJ rfl (z := a_c.hasLow)) (oK 22 rfl rfl rfl g9 (zf ty4 rfl) (oK 22 rfl rfl rfl g9 (zbt rfl) (oK 22 rfl rfl rfl g9 (zq rfl) (zaz (jb 30) je .nil h 4 rfl (fun q10 g10 h => ?_) (fun J11 h hJ11 => ?_)))))
    ·refine oK 22 rfl rfl rfl g9 (zq rfl) (zaz (jb 35) je .nil h 4 rfl (fun q13 g13 h => ?_) (fun J14 h hJ14 => ?_))
     ·refine oK 22 rfl rfl rfl g9 (zq rfl) (zaz (jb 49) je .nil h 13 rfl (fun q16 g16 h => ?_) (fun J17 h hJ17 => ?_))
      ·exact oV (zs rfl g9 rfl) (hJ8 _ () h _ (ji 10 50 rfl rfl rfl))
      refine zC (j := 36) h rfl (fun g18 h => ?_) (fun g18 h => ?_)
      ·refine oP 36 rfl rfl g18 (oP 36 rfl rfl g18 (oP 36 rfl rfl g18 (zE rfl (dj := 39) rfl (zE rfl (dj := 39) rfl (zE rfl (dj := 39) rfl (zE rfl (dj := 39) rfl (zE rfl (dj := 43) rfl (zE rfl (dj := 43) rfl ?_))))))))
       exact zE rfl (dj := 43) rfl (zE rfl (dj := 39) rfl (oP 36 rfl rfl g18 (oK 22 rfl rfl rfl g9 (zs rfl g18 rfl) (hJ17 _ () h _ (ji 13 49 rfl rfl rfl)))))
      refine oK 36 rfl rfl rfl g18 (zZ rfl GCon.f2 zi2 rfl (z := a_c.hasHigh)) (oK 36 rfl rfl rfl g18 (zf ty4 rfl) (oK 36 rfl rfl rfl g18 (zq rfl) (zaz (jb 48) je .nil h 9 rfl (fun q19 g19 h => ?_) (fun J20 h hJ20 => ?_))))
      ·exact oK 22 rfl rfl rfl g9 (zr rfl g18 rfl) (hJ17 _ () h _ (ji 5 49 rfl rfl rfl))
      refine zC (j := 39) h rfl (fun g21 h => ?_) (fun g21 h => ?_)
      ·refine oK 39 rfl rfl rfl g21 (zZ rfl GCon.f5 zhX rfl (z := a_c.high)) (oK 39 rfl rfl rfl g21 (zf ty2 rfl) (oK 39 rfl rfl rfl g21 (zai rfl rfl) (oK 39 rfl rfl rfl g21 (zq rfl) (zaz (jb 47) je .nil h 4 rfl (fun q22 g22 h => ?_) (fun J23 h hJ23 => ?_)))))
       ·exact oK 36 rfl rfl rfl g18 (zs rfl g21 rfl) (hJ20 _ () h _ (ji 6 48 rfl rfl rfl))
       refine zC (j := 43) h rfl (fun g24 h => ?_) (fun g24 h => ?_)
       ·exact oP 43 rfl rfl g24 (oP 43 rfl rfl g24 (oP 43 rfl rfl g24 (oK 39 rfl rfl rfl g21 (zs rfl g24 rfl) (hJ23 _ () h _ (ji 4 47 rfl rfl rfl)))))
       exact oK 43 rfl rfl rfl g24 (zZ rfl GCon.f5 zhX rfl (z := a_c.high)) (oK 43 rfl rfl rfl g24 (zf ty2 rfl) (oK 43 rfl rfl rfl g24 (zbu rfl rfl) (oK 39 rfl rfl rfl g21 (zr rfl g24 rfl) (hJ23 _ () h _ (ji 4 47 rfl rfl rfl)))))
      refine oP 39 rfl rfl g21 (oP 39 rfl rfl g21 (oP 39 rfl rfl g21 (oP 39 rfl rfl g21 (zE rfl (dj := 43) rfl (zE rfl (dj := 43) rfl (zE rfl (dj := 43) rfl (oP 39 rfl rfl g21 (oK 36 rfl rfl rfl g18 (zr rfl g21 rfl) ?_))))))))
      exact hJ20 _ () h _ (ji 9 48 rfl rfl rfl)
     refine zC (j := 31) h rfl (fun g15 h => ?_) (fun g15 h => ?_)
     ·exact oP 31 rfl rfl g15 (oP 31 rfl rfl g15 (oP 31 rfl rfl g15 (oK 22 rfl rfl rfl g9 (zs rfl g15 rfl) (hJ14 _ () h _ (ji 4 35 rfl rfl rfl)))))
     exact oK 31 rfl rfl rfl g15 (zZ rfl GCon.f4 zh1 rfl (z := a_c.low)) (oK 31 rfl rfl rfl g15 (zf ty2 rfl) (oK 31 rfl rfl rfl g15 (zbu rfl rfl) (oK 22 rfl rfl rfl g9 (zr rfl g15 rfl) (hJ14 _ () h _ (ji 4 35 rfl rfl rfl)))))
    refine zC (j := 26) h rfl (fun g12 h => ?_) (fun g12 h => ?_)
    ·exact oP 26 rfl rfl g12 (oP 26 rfl rfl g12 (oP 26 rfl rfl g12 (oK 22 rfl rfl rfl g9 (zs rfl g12 rfl) (hJ11 _ () h _ (ji 4 30 rfl rfl rfl)))))
    exact oK 26 rfl rfl rfl g12 (zZ rfl GCon.f4 zh1 rfl (z := a_c.low)) (oK 26 rfl rfl rfl g12 (zf ty2 rfl) (oK 26 rfl rfl rfl g12 (zai rfl rfl) (oK 22 rfl rfl rfl g9 (zr rfl g12 rfl) (hJ11 _ () h _ (ji 4 30 rfl rfl rfl)))))
   refine oP 22 rfl rfl g9 (oP 22 rfl rfl g9 (oP 22 rfl rfl g9 (oP 22 rfl rfl g9 (zE rfl (dj := 26) rfl (zE rfl (dj := 26) rfl (zE rfl (dj := 26) rfl (oP 22 rfl rfl g9 (oP 22 rfl rfl g9 ?_))))))))
   refine zE rfl (dj := 31) rfl (zE rfl (dj := 31) rfl (zE rfl (dj := 31) rfl (oP 22 rfl rfl g9 (oP 22 rfl rfl g9 (zE rfl (dj := 36) rfl (zE rfl (dj := 36) rfl (zE rfl (dj := 36) rfl (zE rfl (dj := 39) rfl ?_))))))))
   refine zE rfl (dj := 39) rfl (zE rfl (dj := 39) rfl (zE rfl (dj := 39) rfl (zE rfl (dj := 43) rfl (zE rfl (dj := 43) rfl (zE rfl (dj := 43) rfl (zE rfl (dj := 39) rfl (zE rfl (dj := 36) rfl (oP 22 rfl rfl g9 ?_))))))))
   exact oV (zr rfl g9 rfl) (hJ8 _ () h _ (ji 28 50 rfl rfl rfl))
  refine zC (j := 14) h rfl (fun g6 h => ?_) (fun g6 h => ?_)
  ·exact oK 14 rfl rfl rfl g6 (zZ rfl GCon.f4 zh1 rfl (z := a_c.low)) (oK 14 rfl rfl rfl g6 (zf ty2 rfl) (oK 14 rfl rfl rfl g6 (zZ rfl GCon.f5 zhX rfl (z := a_c.high)) (oK 14 rfl rfl rfl g6 (zf ty2 rfl) (oK 14 rfl rfl rfl g6 (zbu rfl rfl) (oV (zs rfl g6 rfl) (hJ5 _ () h _ (ji 6 20 rfl rfl rfl)))))))
  exact oP 14 rfl rfl g6 (oP 14 rfl rfl g6 (oP 14 rfl rfl g6 (oP 14 rfl rfl g6 (oP 14 rfl rfl g6 (oV (zr rfl g6 rfl) (hJ5 _ () h _ (ji 6 20 rfl rfl rfl)))))))
 refine zC (j := 10) h rfl (fun g3 h => ?_) (fun g3 h => ?_)
 ·exact oK 10 rfl rfl rfl g3 (zZ rfl GCon.f2 zi2 rfl (z := a_c.hasHigh)) (oK 10 rfl rfl rfl g3 (zf ty4 rfl) (oV (zs rfl g3 rfl) (hJ2 _ () h _ (ji 3 13 rfl rfl rfl))))
 exact oP 10 rfl rfl g3 (oP 10 rfl rfl g3 (oV (zr rfl g3 rfl) (hJ2 _ () h _ (ji 3 13 rfl rfl rfl))))


theorem zkq : ∀ {a_l : (List GItem)} {a_v : Int} {r : Bool}, zfK a_l a_v = some r → Ctr Tryd.prog 112 [isv (a_l), isv (a_v)] [] (fun R H => R = oneOf [isv (r)] ∧ H = []) := by
 intro a_l a_v r h
 unfold zfK at h
 refine zu Tryd.func112 rfl fun w0 S0 hT => wsr (oA rfl (rnf (zj (wsr (oA rfl (rnf (zt ?_)))))))
 refine zaQ (ι := Int) (γ := Unit) (fun q1 g1 => [(5, isv (q1))]) (fun q1 g1 => []) h () (za (j := 5) rfl hI zd) .nil (fun L2 q1 g1 Q15 h hL2 eL2 rL2 => zj (wsr (oM rfl (oM rfl (oV (zaR (l := a_l) rfl hI sl51) (oV (zai rfl rfl) (rnf (zg h rfl (fun _ h => ?_) (fun _ h => ?_)))))))))
 ·refine wkf (zj (zt (wsr (oM rfl (oM rfl (zb h fun y9 hy9 h => oV (zaB (l := a_l) rfl hI rfl sl51 hy9) (oV (zZ rfl GItem.f2 zhV rfl (z := y9.has)) ?_)))))))
  refine oV (zf ty4 rfl) (oM rfl (zaz (jb 25) je .nil h 8 rfl (fun q10 g10 h => ?_) (fun J11 h hJ11 => ?_)))
  ·refine rnf (zg h rfl (fun _ h => ?_) (fun _ h => ?_))
   ·refine wsr (oA rfl (rnf (zK (zG (zB (rL2 _ (zG (zB ?_))))))))
    cases h
    exact zo (.tmp rfl .nil) .nil ⟨rfl, rfl⟩
   refine zab (zi (zy (zh (oM rfl (zz h fun q14 h => oV (zaa rfl rfl q14) (oA rfl (zx ?_)))))))
   exact hL2 _ () h _ (ji 15 5 rfl rfl rfl)
  refine zC (j := 17) h rfl (fun g12 h => ?_) (fun g12 h => ?_)
  ·refine oK 17 rfl rfl rfl g12 (zq rfl) (oK 17 rfl rfl rfl g12 (zq rfl) (zb h fun y13 hy13 h => oK 17 rfl rfl rfl g12 (zaB (l := a_l) rfl hI rfl sl51 hy13) (oK 17 rfl rfl rfl g12 (zZ rfl GItem.f1 zc5 rfl (z := y13.number)) (oK 17 rfl rfl rfl g12 (zf ty2 rfl) (oK 17 rfl rfl rfl g12 (zq rfl) (oK 17 rfl rfl rfl g12 (zao rfl rfl) (oV (zs rfl g12 rfl) ?_)))))))
   exact hJ11 _ () h _ (ji 8 25 rfl rfl rfl)
  exact oP 17 rfl rfl g12 (oP 17 rfl rfl g12 (oP 17 rfl rfl g12 (oP 17 rfl rfl g12 (oP 17 rfl rfl g12 (oP 17 rfl rfl g12 (oP 17 rfl rfl g12 (oV (zr rfl g12 rfl) (hJ11 _ () h _ (ji 8 25 rfl rfl rfl)))))))))
 refine zae (zU (eL2 _ _ (zF (zy (wsr (oA rfl (rnf (zK ?_))))))))
 cases h
 exact zo (.tmp rfl .nil) .nil ⟨rfl, rfl⟩


theorem zfu : ∀ {a_x : GMk} {a_n_ : GNode} {zH : Nat} {zah : Vt} {r : (List GItem) × GMk}, zc3 a_x a_n_ = some r → Ctr Tryd.prog 103 [ptrv zH (Fld.id (GMod × Vh × Int)), isv (a_n_)] [boxE zH ((a_x.m, (Vh.mk zah a_x.l.length), a_x.e) : (GMod × Vh × Int)), vecE zah (a_x.l : List GTyp)] (fun R H => R = oneOf [isv (r.1)] ∧ H = [boxE zH ((r.2.m, (Vh.mk zah r.2.l.length), r.2.e)), vecE zah (r.2.l)]) := by
 intro a_x a_n_ zH zah r h
 unfold zc3 at h
 refine zu Tryd.func103 rfl fun w0 S0 hT => wsr (oT (zbd (y := a_n_) rfl hI (oA rfl (rnf (wsr (oA rfl (rnf (wsr ?_))))))))
 refine oA rfl (rnf (zj (wsr (oA rfl (rnf (zt (zgq (za1) (zaQ (ι := (List GItem) × Int × Int) (γ := Tok) (fun q2 g2 => [(5, appv g2 (q2.1)), (6, isv (q2.2.1)), (7, isv (q2.2.2))]) (fun q2 g2 => [tokE g2]) h (none) (za (j := 5) rfl zbA (za (j := 6) rfl hI (za (j := 7) rfl hI zd))) k1 (fun L3 q2 g2 Q666 h hL3 eL3 rL3 => ?_)))))))))
 refine zj (wsr (oM rfl (oV (zZ rfl GNode.f6 zfp rfl (z := a_n_.root)) (oV (zf ty3 rfl) (oV (zai rfl rfl) (rnf (zg h rfl (fun _ h => ?_) (fun _ h => ?_))))))))
 ·refine wkf (zj (zt (wsr (oV (zZ rfl GNode.f4 zew rfl (z := a_n_.items)) (oV (zf ty51 rfl) (oM rfl (zb h fun y335 hy335 h => oV (zaB (l := a_n_.items) rfl hI rfl sl51 hy335) ?_)))))))
  refine oV (zf ty67 rfl) (oT (zag _ ze67 fun b336 => oT (zk (y' := (y335 : GItem)) ty67 rfl rfl hI .here rfl (rnf (zj (wsr (oV (zaj rfl GItem.f2 zhV) (oT (zL (R := isv (y335.has)) ty4 rfl .here hI (oV (zbt rfl) ?_))))))))))
  refine rnf (zdx (ι := Int × GItem) (γ := Unit) (fun q337 g337 => [(6, isv (q337.1))]) (fun q337 g337 => [boxE b336 (q337.2 : GItem)]) k1 h (fun q337 g337 h => ?_) (fun J338 h hJ338 => ?_))
  ·refine wsr (oV (zaj rfl GItem.f2 zhV) (oT (zk (y' := ({ q337.2 with has := false } : GItem)) ty4 rfl rfl hI .here rfl (rnf (zh (oM rfl (oT (zL (R := isv ({ q337.2 with has := false })) ty67 rfl .here hI (oT (zad (l := ([{ q337.2 with has := false }] : (List GItem))) el51 (.cons rfl hI .nil) rfl rfl (zar h fun q352 h => ?_)))))))))))
   refine oT (zbs (l := q2.1) (m := ([{ q337.2 with has := false }] : (List GItem))) zit rfl hI rfl zO tH q352 fun t351 => oA rfl (zx (zi (zy (zh (oM rfl (zz h fun q353 h => oV (zaa rfl rfl q353) ?_)))))))
   exact oA rfl (zx (hL3 _ (t351) h _ (ze 26 rfl rfl (za (j := 5) rfl hI (za (j := 6) rfl hI (za (j := 7) rfl hI zd))) (.cons .here (.cons tH (.cons tH .nil))))))
  refine zg h rfl (fun _ h => ?_) (fun _ h => ?_)
  ·refine zj (zt (zaQ (ι := Int) (γ := Unit) (fun q339 g339 => [(6, isv (q339))]) (fun q339 g339 => []) h () (za (j := 6) rfl hI zd) .nil (fun L340 q339 g339 Q349 h hL340 eL340 rL340 => zj (wsr (oV (zZ rfl GNode.f4 zew rfl (z := a_n_.items)) (oV (zf ty51 rfl) (oV (zZ rfl GNode.f6 zfp rfl (z := a_n_.root)) (oV (zf ty3 rfl) ?_))))))))
   refine zI h fun q345 h => oV (zfz (l := a_n_.items) rfl hI sl51 (.inl ⟨rfl, rfl⟩) (.inr ⟨_, rfl, rfl⟩) q345.1 q345.2.1 q345.2.2) (oM rfl (zb h fun y346 hy346 h => oT (zA (zkq hy346) hT (s2 rfl rfl) .nil (rnf (zg h rfl (fun _ h => ?_) (fun _ h => ?_))))))
   ·refine wkf (zt (zh (oM rfl (zz h fun q347 h => oV (zaa rfl rfl q347) (oA rfl (zx (zi ?_)))))))
    exact hL340 _ () h _ (ze 11 rfl rfl (za (j := 6) rfl hI zd) k4)
   refine zae (zU (eL340 _ _ (zF (zy (wsr (oM rfl (oV (zaj rfl GItem.f1 zc5) (oT (zk (y' := ({ y335 with number := q339 } : GItem)) ty2 rfl rfl hI .here rfl ?_)))))))))
   exact rnf (zh (oM rfl (zz h fun q348 h => oV (zaa rfl rfl q348) (oA rfl (zx (hJ338 _ () h _ (ze 13 rfl rfl (za (j := 6) rfl hI zd) k4)))))))
  exact zab (hJ338 _ () h _ (ze 0 rfl rfl (za (j := 6) rfl hI zd) k4))
 refine zae (zU (eL3 _ _ (zF (zy (wsr (oA rfl (rnf (wsr ?_))))))))
 refine oA rfl (oA rfl (rnf (zj (wsr (oV (zZ rfl GNode.f6 zfp rfl (z := a_n_.root)) (oV (zf ty3 rfl) (oA rfl (rnf ?_))))))))
 refine zt (zaQ (ι := (List GItem) × Int × Bool × Bool × Int) (γ := Tok) (fun q354 g354 => [(5, appv g354 (q354.1)), (9, isv (q354.2.1)), (10, isv (q354.2.2.1)), (11, isv (q354.2.2.2.1)), (12, isv (q354.2.2.2.2))]) (fun q354 g354 => [tokE g354]) h (g2) (za (j := 5) rfl hI (za (j := 9) rfl hI (za (j := 10) rfl hI (za (j := 11) rfl hI (za (j := 12) rfl hI zd))))) k1 (fun L355 q354 g354 Q664 h hL355 eL355 rL355 => zj (wsr (oM rfl (oV (zZ rfl GNode.f4 zew rfl (z := a_n_.items)) (oV (zf ty51 rfl) (oV (zaR (l := a_n_.items) rfl hI sl51) (oV (zai rfl rfl) ?_))))))))
 refine rnf (zg h rfl (fun _ h => ?_) (fun _ h => ?_))
 ·refine wkf (zj (zt (wsr (oV (zZ rfl GNode.f4 zew rfl (z := a_n_.items)) (oV (zf ty51 rfl) (oM rfl (zb h fun y558 hy558 h => oV (zaB (l := a_n_.items) rfl hI rfl sl51 hy558) ?_)))))))
  refine oV (zf ty67 rfl) (oT (zag _ ze67 fun b559 => oT (zk (y' := (y558 : GItem)) ty67 rfl rfl hI .here rfl (rnf (zj (wsr (oV (zaj rfl GItem.f2 zhV) (oT (zL (R := isv (y558.has)) ty4 rfl .here hI (oV (zbt rfl) ?_))))))))))
  refine rnf (zdx (ι := GItem) (γ := Unit) (fun q560 g560 => [(13, ptrv b559 (Fld.id GItem))]) (fun q560 g560 => [boxE b559 (q560 : GItem)]) k1 h (fun q560 g560 h => ?_) (fun J561 h hJ561 => ?_))
  ·refine wsr (oM rfl (oM rfl (zaz (jb 109) je .nil h 8 rfl (fun q591 g591 h => ?_) (fun J592 h hJ592 => ?_))))
   ·refine oA rfl (rnf (wsr (oV (zaj rfl GItem.f2 zhV) (oT (zk (y' := ({ q560 with has := false } : GItem)) ty4 rfl rfl hI .here rfl (rnf (wsr (oV (zaj rfl GItem.f1 zc5) (oT (zL (R := isv (q560.number)) ty2 rfl .here hI ?_))))))))))
    refine oA rfl (oA rfl (rnf (zh (oM rfl (oT (zL (R := isv ({ q560 with has := false })) ty67 rfl .here hI (oT (zad (l := ([{ q560 with has := false }] : (List GItem))) el51 (.cons rfl hI .nil) rfl rfl (zar h fun q599 h => oT (zbs (l := q354.1) (m := ([{ q560 with has := false }] : (List GItem))) zit rfl hI rfl zO tH q599 fun t598 => ?_))))))))))
    refine oA rfl (zx (zi (zy (zh (oM rfl (zz h fun q600 h => oV (zaa rfl rfl q600) (oA rfl ?_)))))))
    exact zx (hL355 _ (t598) h _ (ze 37 rfl rfl (za (j := 5) rfl hI (za (j := 9) rfl hI (za (j := 10) rfl hI (za (j := 11) rfl hI (za (j := 12) rfl hI zd))))) (.cons .here (.cons tH (.cons tH .nil)))))
   refine zC (j := 101) h rfl (fun g593 h => ?_) (fun g593 h => ?_)
   ·exact oP 101 rfl rfl g593 (oP 101 rfl rfl g593 (zE rfl (dj := 103) rfl (zE rfl (dj := 103) rfl (zE rfl (dj := 103) rfl (zE rfl (dj := 103) rfl (oP 101 rfl rfl g593 (oV (zs rfl g593 rfl) (hJ592 _ () h _ (ze 8 rfl rfl (za (j := 109) rfl hI zd) k4)))))))))
   refine oK 101 rfl rfl rfl g593 (zq rfl) (oK 101 rfl rfl rfl g593 (zq rfl) (zaz (jb 108) je .nil h 5 rfl (fun q594 g594 h => ?_) (fun J595 h hJ595 => ?_)))
   ·exact oV (zr rfl g593 rfl) (hJ592 _ () h _ (ze 4 rfl rfl (za (j := 109) rfl hI zd) k4))
   refine zC (j := 103) h rfl (fun g596 h => ?_) (fun g596 h => ?_)
   ·exact oK 103 rfl rfl rfl g596 (zaj rfl GItem.f1 zc5) (zaF rfl rfl (dj := 103) rfl g596 (zL (R := isv (q560.number)) ty2 rfl .here hI (oK 103 rfl rfl rfl g596 (zq rfl) (oK 103 rfl rfl rfl g596 (zii rfl rfl) (oK 101 rfl rfl rfl g593 (zs rfl g596 rfl) (hJ595 _ () h _ (ze 5 rfl rfl (za (j := 108) rfl hI zd) k4)))))))
   exact oP 103 rfl rfl g596 (oP 103 rfl rfl g596 (oP 103 rfl rfl g596 (oP 103 rfl rfl g596 (oK 101 rfl rfl rfl g593 (zr rfl g596 rfl) (hJ595 _ () h _ (ze 5 rfl rfl (za (j := 108) rfl hI zd) k4))))))
  refine zg h rfl (fun _ h => ?_) (fun _ h => ?_)
  ·refine wsr (oV (zaj rfl GItem.f1 zc5) (oT (zk (y' := ({ y558 with number := (0 : Int) } : GItem)) ty2 rfl rfl hI .here rfl (rnf (wsr (oA rfl (rnf (zt (zaQ (ι := Int × GItem) (γ := Unit) (fun q562 g562 => [(13, ptrv b559 (Fld.id GItem)), (14, isv (q562.1))]) (fun q562 g562 => [boxE b559 (q562.2 : GItem)]) h () (za (j := 13) rfl hI (za (j := 14) rfl hI zd)) k1 (fun L563 q562 g562 Q590 h hL563 eL563 rL563 => ?_))))))))))
   refine zj (wsr (oM rfl (oM rfl (oV (zaR (l := q354.1) rfl zO sl51) (oV (zai rfl rfl) (rnf (zg h rfl (fun _ h => ?_) (fun _ h => ?_))))))))
   ·refine wkf (zj (zdx (ι := GItem) (γ := Unit) (fun q577 g577 => [(13, ptrv b559 (Fld.id GItem))]) (fun q577 g577 => [boxE b559 (q577 : GItem)]) k1 h (fun q577 g577 h => ?_) (fun J578 h hJ578 => ?_)))
    ·exact zh (oM rfl (zz h fun q589 h => oV (zaa rfl rfl q589) (oA rfl (zx (hL563 _ () h _ (ze 10 rfl rfl (za (j := 13) rfl hI (za (j := 14) rfl hI zd)) k4))))))
    refine zt (zj (wsr (oM rfl (oM rfl (zb h fun y579 hy579 h => oV (zaB (l := q354.1) rfl zO rfl sl51 hy579) (oV (zZ rfl GItem.f1 zc5 rfl (z := y579.number)) (oV (zf ty2 rfl) ?_)))))))
    refine oV (zao rfl rfl) (rnf (zg h rfl (fun _ h => ?_) (fun _ h => ?_)))
    ·refine wsr (oM rfl (zb h fun y580 hy580 h => oT (zA (zbi hy580) hT (s2 rfl rfl) (.cons tI (.cons tI .nil)) (rnf (wsr (oA rfl (rnf (zK ?_))))))))
     refine zB (zG (zB (rL563 _ (zG (zB (zG (zB (rL355 _ ?_))))))))
     refine zG (zB ?_)
     cases h
     exact zo (.as rfl (zdi (α := GItem)) .nil) k2 ⟨rfl, rfl⟩
    refine wkf (zj (zc7 13 .here rfl (fun o581 hn582 => zS (.v 0 (.v 1 (.v 2 (.v 3 (.v 4 (.v 5 (.v 6 (.v 7 (.v 8 (.v 9 (.v 10 (.v 11 .nil)))))))))))) moOrd (by kernel_rfl) ?_)))
    refine rvm rfl rfl (zp rfl (zao rfl rfl) (rvm rfl rfl (zcV (jb 92) je .nil h 9 rfl (fun q583 g583 h => ?_) (fun J584 h hJ584 => ?_))))
    ·refine zac (zaP 13 hn582 rfl (zy (zg h rfl (fun _ h => ?_) (fun _ h => ?_))))
     ·refine zh (oM rfl (oM rfl (zb h fun y587 hy587 h => oV (zaB (l := q354.1) rfl zO rfl sl51 hy587) (oV (zZ rfl GItem.f1 zc5 rfl (z := y587.number)) (oV (zf ty2 rfl) (zz h fun q588 h => oV (zaa rfl rfl q588) ?_))))))
      exact oV (zaj rfl GItem.f1 zc5) (oT (zk (y' := ({ q562.2 with number := (y587.number + (1 : Int)) } : GItem)) ty2 rfl rfl hI .here rfl (zx (zi (hJ578 _ () h _ (ze 19 rfl rfl (za (j := 13) rfl hI zd) k4))))))
     exact zab (zi (hJ578 _ () h _ (ze 12 rfl rfl (za (j := 13) rfl hI zd) k4)))
    refine zav (j := 83) h rfl (fun g585 h => ?_) (fun g585 h => ?_)
    ·refine rpv 83 rfl rfl rfl g585 (rpv 83 rfl rfl rfl g585 (rpv 83 rfl rfl rfl g585 (rpv 83 rfl rfl rfl g585 (rpv 83 rfl rfl rfl g585 (rpv 83 rfl rfl rfl g585 (rpv 83 rfl rfl rfl g585 (rpv 83 rfl rfl rfl g585 (zp rfl (zs rfl g585 rfl) ?_))))))))
     exact hJ584 _ () h _ (ze 9 rfl rfl (za (j := 92) rfl hI zd) k3)
    refine rvt 83 rfl rfl rfl g585 (zq rfl) (rvt 83 rfl rfl rfl g585 (zq rfl) (zb h fun y586 hy586 h => rvt 83 rfl rfl rfl g585 (zaB (l := q354.1) rfl zO rfl sl51 hy586) (rvt 83 rfl rfl rfl g585 (zZ rfl GItem.f1 zc5 rfl (z := y586.number)) (rvt 83 rfl rfl rfl g585 (zf ty2 rfl) (rvt 83 rfl rfl rfl g585 (zf2 rfl GItem.f1 zc5) (rvt 83 rfl rfl rfl g585 (zdh (R := isv (q562.2.number)) ty2 rfl (List.Mem.head _) hI) (rvt 83 rfl rfl rfl g585 (zed rfl rfl) ?_)))))))
    exact zp rfl (zr rfl g585 rfl) (hJ584 _ () h _ (ze 9 rfl rfl (za (j := 92) rfl hI zd) k3))
   exact zae (zU (eL563 _ _ (zF (hJ561 _ () h _ (ze 8 rfl rfl (za (j := 13) rfl hI zd) k4)))))
  exact zab (hJ561 _ () h _ (ze 0 rfl rfl (za (j := 13) rfl hI zd) k4))
 refine zae (zU (eL355 _ _ (zF (zy (zj (wsr (oA rfl (rnf ?_))))))))
 refine zt (zaQ (ι := Bool × Int) (γ := Unit) (fun q601 g601 => [(11, isv (q601.1)), (15, isv (q601.2))]) (fun q601 g601 => []) h () (za (j := 11) rfl hI (za (j := 15) rfl hI zd)) .nil (fun L602 q601 g601 Q663 h hL602 eL602 rL602 => zj (wsr (oM rfl (oM rfl (oV (zaR (l := q354.1) rfl zO sl51) (oV (zai rfl rfl) (rnf ?_))))))))
 refine zg h rfl (fun _ h => ?_) (fun _ h => ?_)
 ·refine wkf (zj (zt (wsr (oA rfl (rnf (zt (zaQ (ι := Bool × Int) (γ := Unit) (fun q633 g633 => [(11, isv (q633.1)), (16, isv (q633.2))]) (fun q633 g633 => []) h () (za (j := 11) rfl hI (za (j := 16) rfl hI zd)) .nil (fun L634 q633 g633 Q659 h hL634 eL634 rL634 => zj ?_))))))))
  refine wsr (oM rfl (oM rfl (oV (zai rfl rfl) (rnf (zg h rfl (fun _ h => ?_) (fun _ h => ?_))))))
  ·refine wkf (zj (zt (zS (.v 0 (.v 1 (.v 2 (.v 3 (.v 4 (.v 5 (.v 6 (.v 7 (.v 8 (.v 9 (.v 10 (.v 11 (.v 12 (.v 13 (.v 14 (.v 15 (.v 16 (.v 17 (.v 18 (.v 19 (.v 20 (.v 21 (.v 22 (.v 23 (.v 24 (.v 25 (.v 26 (.v 27 .nil)))))))))))))))))))))))))))) moOrd (by kernel_rfl) ?_)))
   refine rvm rfl rfl (rvm rfl rfl (zcV (jb 141) je .nil h 12 rfl (fun q647 g647 h => ?_) (fun J648 h hJ648 => ?_)))
   ·refine rvm rfl rfl (zcV (jb 154) je .nil h 12 rfl (fun q652 g652 h => ?_) (fun J653 h hJ653 => ?_))
    ·refine zp rfl (zaX rfl) (zac (zi (zy (zh (oM rfl (zz h fun q657 h => oV (zaa rfl rfl q657) (oA rfl ?_)))))))
     exact zx (hL634 _ () h _ (ze 14 rfl rfl (za (j := 11) rfl hI (za (j := 16) rfl hI zd)) k3))
    refine zav (j := 142) h rfl (fun g654 h => ?_) (fun g654 h => ?_)
    ·refine rpv 142 rfl rfl rfl g654 (rpv 142 rfl rfl rfl g654 (rpv 142 rfl rfl rfl g654 (rpv 142 rfl rfl rfl g654 (rpv 142 rfl rfl rfl g654 (rpv 142 rfl rfl rfl g654 (rpv 142 rfl rfl rfl g654 (rpv 142 rfl rfl rfl g654 (rpv 142 rfl rfl rfl g654 ?_))))))))
     exact rpv 142 rfl rfl rfl g654 (rpv 142 rfl rfl rfl g654 (zp rfl (zs rfl g654 rfl) (hJ653 _ () h _ (ze 12 rfl rfl (za (j := 154) rfl hI zd) k3))))
    refine rvt 142 rfl rfl rfl g654 (zq rfl) (rvt 142 rfl rfl rfl g654 (zq rfl) (zb h fun y655 hy655 h => rvt 142 rfl rfl rfl g654 (zaB (l := q354.1) rfl zO rfl sl51 hy655) (rvt 142 rfl rfl rfl g654 (zZ rfl GItem.f1 zc5 rfl (z := y655.number)) (rvt 142 rfl rfl rfl g654 (zf ty2 rfl) (rvt 142 rfl rfl rfl g654 (zq rfl) (rvt 142 rfl rfl rfl g654 (zq rfl) (zb h fun y656 hy656 h => ?_)))))))
    exact rvt 142 rfl rfl rfl g654 (zaB (l := q354.1) rfl zO rfl sl51 hy656) (rvt 142 rfl rfl rfl g654 (zZ rfl GItem.f1 zc5 rfl (z := y656.number)) (rvt 142 rfl rfl rfl g654 (zf ty2 rfl) (rvt 142 rfl rfl rfl g654 (zao rfl rfl) (zp rfl (zr rfl g654 rfl) (hJ653 _ () h _ (ze 12 rfl rfl (za (j := 154) rfl hI zd) k3))))))
   refine zav (j := 129) h rfl (fun g649 h => ?_) (fun g649 h => ?_)
   ·refine rpv 129 rfl rfl rfl g649 (rpv 129 rfl rfl rfl g649 (rpv 129 rfl rfl rfl g649 (rpv 129 rfl rfl rfl g649 (rpv 129 rfl rfl rfl g649 (rpv 129 rfl rfl rfl g649 (rpv 129 rfl rfl rfl g649 (rpv 129 rfl rfl rfl g649 (rpv 129 rfl rfl rfl g649 ?_))))))))
    exact rpv 129 rfl rfl rfl g649 (rpv 129 rfl rfl rfl g649 (zp rfl (zs rfl g649 rfl) (hJ648 _ () h _ (ze 12 rfl rfl (za (j := 141) rfl hI zd) k3))))
   refine rvt 129 rfl rfl rfl g649 (zq rfl) (rvt 129 rfl rfl rfl g649 (zq rfl) (zb h fun y650 hy650 h => rvt 129 rfl rfl rfl g649 (zaB (l := q354.1) rfl zO rfl sl51 hy650) (rvt 129 rfl rfl rfl g649 (zZ rfl GItem.f0 zkg rfl (z := y650.name)) (rvt 129 rfl rfl rfl g649 (zf ty9 rfl) (rvt 129 rfl rfl rfl g649 (zq rfl) (rvt 129 rfl rfl rfl g649 (zq rfl) (zb h fun y651 hy651 h => ?_)))))))
   exact rvt 129 rfl rfl rfl g649 (zaB (l := q354.1) rfl zO rfl sl51 hy651) (rvt 129 rfl rfl rfl g649 (zZ rfl GItem.f0 zkg rfl (z := y651.name)) (rvt 129 rfl rfl rfl g649 (zf ty9 rfl) (rvt 129 rfl rfl rfl g649 (zcE eq9 rfl rfl) (zp rfl (zr rfl g649 rfl) (hJ648 _ () h _ (ze 12 rfl rfl (za (j := 141) rfl hI zd) k3))))))
  refine zae (zU (eL634 _ _ (zF (zi (zy (zh (oM rfl (zz h fun q658 h => ?_))))))))
  exact oV (zaa rfl rfl q658) (oA rfl (zx (hL602 _ () h _ (ze 15 rfl rfl (za (j := 11) rfl hI (za (j := 15) rfl hI zd)) k3))))
 refine zae (zU (eL602 _ _ (zF (zy (zj (wsr (oM rfl (rnf ?_))))))))
 refine zdx (ι := GMk) (γ := Unit) (fun q660 g660 => []) (fun q660 g660 => [boxE zH ((q660.m, (Vh.mk zah q660.l.length), q660.e) : (GMod × Vh × Int)), vecE zah (q660.l : List GTyp)]) (.cons tH (.cons tH .nil)) h (fun q660 g660 h => ?_) (fun J661 h hJ661 => ?_)
 ·refine wsr (oM rfl (oA rfl (rnf (zK ?_))))
  cases h
  exact zo (.as rfl zO .nil) k2 ⟨rfl, rfl⟩
 refine zg h rfl (fun _ h => ?_) (fun _ h => ?_)
 ·exact zh (oM rfl (zb h fun y662 hy662 h => oT (zA (zbi hy662) hT (s2 rfl rfl) (.cons tH (.cons tH .nil)) (zx (hJ661 _ () h _ (ze 2 rfl rfl zd k3))))))
 exact zab (hJ661 _ () h _ (ze 0 rfl rfl zd (.cons tH (.cons tH k1))))


theorem zhM : ∀ {a_c : GCon} {a_v : Int} {r : Bool}, zeo a_c a_v = some r → Ctr Tryd.prog 117 [isv (a_c), isv (a_v)] [] (fun R H => R = oneOf [isv (r)] ∧ H = []) := by
 intro a_c a_v r h
 unfold zeo at h
 refine zu Tryd.func117 rfl fun w0 S0 hT => wsr (oT (zbd (y := a_c) rfl hI (oA rfl (rnf (wsr (oV (zZ rfl GCon.f0 zlU rfl (z := a_c.has)) (oV (zf ty4 rfl) (oV (zbt rfl) ?_))))))))
 refine oM rfl (zaz (jb 29) je .nil h 21 rfl (fun q1 g1 h => ?_) (fun J2 h hJ2 => ?_))
 ·refine oA rfl (rnf (zK ?_))
  cases h
  exact zo (.tmp rfl .nil) .nil ⟨rfl, rfl⟩
 refine zC (j := 8) h rfl (fun g3 h => ?_) (fun g3 h => ?_)
 ·refine oP 8 rfl rfl g3 (oP 8 rfl rfl g3 (oP 8 rfl rfl g3 (oP 8 rfl rfl g3 (zE rfl (dj := 12) rfl (zE rfl (dj := 12) rfl (zE rfl (dj := 12) rfl (zE rfl (dj := 12) rfl (oP 8 rfl rfl g3 ?_))))))))
  refine oP 8 rfl rfl g3 (zE rfl (dj := 18) rfl (zE rfl (dj := 18) rfl (zE rfl (dj := 18) rfl (zE rfl (dj := 18) rfl (zE rfl (dj := 22) rfl (zE rfl (dj := 22) rfl (zE rfl (dj := 22) rfl (zE rfl (dj := 22) rfl ?_))))))))
  exact zE rfl (dj := 18) rfl (oP 8 rfl rfl g3 (oV (zs rfl g3 rfl) (hJ2 _ () h _ (ji 21 29 rfl rfl rfl))))
 refine oK 8 rfl rfl rfl g3 (zZ rfl GCon.f1 ziJ rfl (z := a_c.hasLow)) (oK 8 rfl rfl rfl g3 (zf ty4 rfl) (oK 8 rfl rfl rfl g3 (zbt rfl) (oK 8 rfl rfl rfl g3 (zq rfl) (zaz (jb 17) je .nil h 5 rfl (fun q4 g4 h => ?_) (fun J5 h hJ5 => ?_)))))
 ·refine oK 8 rfl rfl rfl g3 (zq rfl) (zaz (jb 28) je .nil h 10 rfl (fun q7 g7 h => ?_) (fun J8 h hJ8 => ?_))
  ·exact oV (zr rfl g3 rfl) (hJ2 _ () h _ (ji 8 29 rfl rfl rfl))
  refine zC (j := 18) h rfl (fun g9 h => ?_) (fun g9 h => ?_)
  ·refine oK 18 rfl rfl rfl g9 (zZ rfl GCon.f2 zi2 rfl (z := a_c.hasHigh)) (oK 18 rfl rfl rfl g9 (zf ty4 rfl) (oK 18 rfl rfl rfl g9 (zbt rfl) (oK 18 rfl rfl rfl g9 (zq rfl) (zaz (jb 27) je .nil h 5 rfl (fun q10 g10 h => ?_) (fun J11 h hJ11 => ?_)))))
   ·exact oK 8 rfl rfl rfl g3 (zs rfl g9 rfl) (hJ8 _ () h _ (ji 6 28 rfl rfl rfl))
   refine zC (j := 22) h rfl (fun g12 h => ?_) (fun g12 h => ?_)
   ·exact oP 22 rfl rfl g12 (oP 22 rfl rfl g12 (oP 22 rfl rfl g12 (oP 22 rfl rfl g12 (oK 18 rfl rfl rfl g9 (zs rfl g12 rfl) (hJ11 _ () h _ (ji 5 27 rfl rfl rfl))))))
   exact oK 22 rfl rfl rfl g12 (zq rfl) (oK 22 rfl rfl rfl g12 (zZ rfl GCon.f5 zhX rfl (z := a_c.high)) (oK 22 rfl rfl rfl g12 (zf ty2 rfl) (oK 22 rfl rfl rfl g12 (zii rfl rfl) (oK 18 rfl rfl rfl g9 (zr rfl g12 rfl) (hJ11 _ () h _ (ji 5 27 rfl rfl rfl))))))
  refine oP 18 rfl rfl g9 (oP 18 rfl rfl g9 (oP 18 rfl rfl g9 (oP 18 rfl rfl g9 (zE rfl (dj := 22) rfl (zE rfl (dj := 22) rfl (zE rfl (dj := 22) rfl (zE rfl (dj := 22) rfl (oP 18 rfl rfl g9 ?_))))))))
  exact oK 8 rfl rfl rfl g3 (zr rfl g9 rfl) (hJ8 _ () h _ (ji 10 28 rfl rfl rfl))
 refine zC (j := 12) h rfl (fun g6 h => ?_) (fun g6 h => ?_)
 ·exact oP 12 rfl rfl g6 (oP 12 rfl rfl g6 (oP 12 rfl rfl g6 (oP 12 rfl rfl g6 (oK 8 rfl rfl rfl g3 (zs rfl g6 rfl) (hJ5 _ () h _ (ji 5 17 rfl rfl rfl))))))
 exact oK 12 rfl rfl rfl g6 (zq rfl) (oK 12 rfl rfl rfl g6 (zZ rfl GCon.f4 zh1 rfl (z := a_c.low)) (oK 12 rfl rfl rfl g6 (zf ty2 rfl) (oK 12 rfl rfl rfl g6 (zed rfl rfl) (oK 8 rfl rfl rfl g3 (zr rfl g6 rfl) (hJ5 _ () h _ (ji 5 17 rfl rfl rfl))))))


theorem zby : ∀ {a_s : (List UInt8)} {r : UInt64}, za4 a_s = some r → Ctr Tryd.prog 123 [isv (a_s)] [] (fun R H => R = oneOf [isv (r)] ∧ H = []) := by
 intro a_s r h
 unfold za4 at h
 refine zu Tryd.func123 rfl fun w0 S0 hT => wsr (oA rfl (rnf (zj (znr rfl rfl (wkf (zj (zS (.v 0 (.v 1 (.v 2 (.v 3 (.v 4 (.v 5 (.v 6 (.v 7 (.v 8 (.v 9 (.v 10 (.v 11 (.v 12 (.v 13 (.v 14 (.v 15 (.v 16 (.v 17 (.v 18 (.v 19 (.v 20 (.v 21 (.v 22 (.v 23 (.v 24 (.v 25 (.v 26 (.v 27 (.v 28 (.v 29 (.v 30 (.v 31 (.v 32 (.v 33 (.v 34 (.v 35 (.v 36 (.v 37 (.v 38 (.v 39 (.v 40 (.v 41 (.v 42 (.v 43 (.v 44 (.v 45 (.v 46 .nil))))))))))))))))))))))))))))))))))))))))))))))) moOrd (by kernel_rfl) ?_)))))))
 refine rvm rfl rfl (zb h fun y1 hy1 h => zp rfl (zaB (l := a_s) rfl hI rfl sl59 hy1) (zp rfl (zf ty5 rfl) (zp rfl (zev Tryd.underlying5 Tryd.underlying26 rfl) (rvm rfl rfl (zb h fun y2 hy2 h => zp rfl (zaB (l := a_s) rfl hI rfl sl59 hy2) (zp rfl (zf ty5 rfl) ?_))))))
 refine zp rfl (zev Tryd.underlying5 Tryd.underlying26 rfl) (zar h fun q3 h => zp rfl (zgf rfl rfl q3) (zp rfl (zfe rfl rfl) (rvm rfl rfl (zb h fun y4 hy4 h => zp rfl (zaB (l := a_s) rfl hI rfl sl59 hy4) (zp rfl (zf ty5 rfl) (zp rfl (zev Tryd.underlying5 Tryd.underlying26 rfl) ?_))))))
 refine zar h fun q5 h => zp rfl (zgf rfl rfl q5) (zp rfl (zfe rfl rfl) (rvm rfl rfl (zb h fun y6 hy6 h => zp rfl (zaB (l := a_s) rfl hI rfl sl59 hy6) (zp rfl (zf ty5 rfl) (zp rfl (zev Tryd.underlying5 Tryd.underlying26 rfl) (zar h fun q7 h => ?_))))))
 refine zp rfl (zgf rfl rfl q7) (zp rfl (zfe rfl rfl) (rvm rfl rfl (zb h fun y8 hy8 h => zp rfl (zaB (l := a_s) rfl hI rfl sl59 hy8) (zp rfl (zf ty5 rfl) (zp rfl (zev Tryd.underlying5 Tryd.underlying26 rfl) (zar h fun q9 h => zp rfl (zgf rfl rfl q9) ?_))))))
 refine zp rfl (zfe rfl rfl) (rvm rfl rfl (zb h fun y10 hy10 h => zp rfl (zaB (l := a_s) rfl hI rfl sl59 hy10) (zp rfl (zf ty5 rfl) (zp rfl (zev Tryd.underlying5 Tryd.underlying26 rfl) (zar h fun q11 h => zp rfl (zgf rfl rfl q11) (zp rfl (zfe rfl rfl) ?_))))))
 refine rvm rfl rfl (zb h fun y12 hy12 h => zp rfl (zaB (l := a_s) rfl hI rfl sl59 hy12) (zp rfl (zf ty5 rfl) (zp rfl (zev Tryd.underlying5 Tryd.underlying26 rfl) (zar h fun q13 h => zp rfl (zgf rfl rfl q13) (zp rfl (zfe rfl rfl) (rvm rfl rfl ?_))))))
 refine zb h fun y14 hy14 h => zp rfl (zaB (l := a_s) rfl hI rfl sl59 hy14) (zp rfl (zf ty5 rfl) (zp rfl (zev Tryd.underlying5 Tryd.underlying26 rfl) (zar h fun q15 h => zp rfl (zgf rfl rfl q15) (zp rfl (zfe rfl rfl) (zp rfl (zaX rfl) (zac ?_))))))
 refine zy (zK ?_)
 cases h
 exact zo (.tmp rfl .nil) .nil ⟨rfl, rfl⟩


theorem zj8 : ∀ {a_p : (List UInt8)} {r : Bool}, zff a_p = some r → Ctr Tryd.prog 118 [isv (a_p)] [] (fun R H => R = oneOf [isv (r)] ∧ H = []) := by
 intro a_p r h
 unfold zff at h
 refine zu Tryd.func118 rfl fun w0 S0 hT => wsr (oA rfl (rnf (wsr (oM rfl (oM rfl (oV (zaR (l := a_p) rfl hI sl59) (oM rfl ?_)))))))
 refine oV (zaR (l := a_p) rfl hI sl59) (zI h fun q1 h => oV (zpA (l := a_p) rfl hI sl59 rfl rfl q1.1 q1.2) (oA rfl (rnf (zj (zt (zaQ (ι := (List UInt8)) (γ := Unit) (fun q2 g2 => [(0, isv (q2))]) (fun q2 g2 => []) h () (za (j := 0) rfl hI zd) .nil (fun L3 q2 g2 Q194 h hL3 eL3 rL3 => zj ?_)))))))
 refine wsr (oM rfl (oV (zaR (l := q2) rfl hI sl59) (oV (zbu rfl rfl) (rnf (zg h rfl (fun _ h => ?_) (fun _ h => ?_))))))
 ·refine wkf (zt (wsr (oM rfl (zb h fun y99 hy99 h => oV (zaB (l := q2) rfl hI rfl sl59 hy99) (oV (zf ty5 rfl) (oA rfl (rnf ?_)))))))
  refine zj (wsr (oM rfl (oV (zer rfl rfl) (rnf (zg h rfl (fun _ h => ?_) (fun _ h => ?_))))))
  ·refine wsr (oM rfl (zI h fun q100 h => oV (zfz (l := q2) rfl hI sl59 (.inr ⟨_, rfl, rfl⟩) (.inl ⟨rfl, rfl⟩) q100.1 q100.2.1 q100.2.2) (oA rfl (rnf (zj (wsr (oM rfl ?_)))))))
   refine oV (zaR (l := ((q2.take ((q2.length : Int)).toNat).drop ((1 : Int)).toNat)) rfl hI sl59) (oV (zbu rfl rfl) (oM rfl (zaz (jb 31) je .nil h 5 rfl (fun q101 g101 h => ?_) (fun J102 h hJ102 => ?_))))
   ·refine rnf (zdx (ι := (List UInt8)) (γ := Unit) (fun q105 g105 => [(0, isv (q105))]) (fun q105 g105 => []) .nil h (fun q105 g105 h => ?_) (fun J106 h hJ106 => ?_))
    ·exact zae (zU (zF (hL3 _ () h _ (ji 19 0 rfl rfl rfl))))
    refine zg h rfl (fun _ h => ?_) (fun _ h => ?_)
    ·refine wsr (oM rfl (zI h fun q107 h => oV (zfz (l := ((q2.take ((q2.length : Int)).toNat).drop ((1 : Int)).toNat)) rfl hI sl59 (.inr ⟨_, rfl, rfl⟩) (.inl ⟨rfl, rfl⟩) q107.1 q107.2.1 q107.2.2) (oA rfl (rnf (zj (zS (.v 0 (.v 1 (.v 2 (.v 3 (.v 4 (.v 6 (.v 7 (.t 5 (.t 8 (.v 9 (.v 10 (.v 11 (.v 12 .nil))))))))))))) moOrd (by kernel_rfl) ?_))))))
     refine rvm rfl rfl (zp rfl (zaR (l := ((((q2.take ((q2.length : Int)).toNat).drop ((1 : Int)).toNat).take ((((q2.take ((q2.length : Int)).toNat).drop ((1 : Int)).toNat).length : Int)).toNat).drop ((8 : Int)).toNat)) rfl hI sl59) (zp rfl (zbu rfl rfl) (rvm rfl rfl (zcV (jb 46) je .nil h 9 rfl (fun q108 g108 h => ?_) (fun J109 h hJ109 => ?_)))))
     ·refine zac (zy (zg h rfl (fun _ h => ?_) (fun _ h => ?_)))
      ·refine wsr (oM rfl (zI h fun q114 h => oV (zfz (l := ((((q2.take ((q2.length : Int)).toNat).drop ((1 : Int)).toNat).take ((((q2.take ((q2.length : Int)).toNat).drop ((1 : Int)).toNat).length : Int)).toNat).drop ((8 : Int)).toNat)) rfl hI sl59 (.inr ⟨_, rfl, rfl⟩) (.inl ⟨rfl, rfl⟩) q114.1 q114.2.1 q114.2.2) (oA rfl (rnf (zt (zaQ (ι := (List UInt8)) (γ := Unit) (fun q115 g115 => [(0, isv (q115))]) (fun q115 g115 => []) h () (za (j := 0) rfl hI zd) .nil (fun L116 q115 g115 Q139 h hL116 eL116 rL116 => zj ?_)))))))
       refine zj (zS (.v 0 (.v 1 (.v 2 (.v 3 (.v 4 (.v 6 (.v 7 (.v 10 (.v 11 (.v 13 (.v 14 (.t 5 (.t 8 (.v 9 (.t 12 (.t 15 (.v 16 (.v 17 (.v 18 (.v 19 (.v 20 .nil))))))))))))))))))))) moOrd (by kernel_rfl) ?_)
       refine rvm rfl rfl (zp rfl (zaR (l := q115) rfl hI sl59) (zp rfl (zbu rfl rfl) (rvm rfl rfl (zcV (jb 69) je .nil h 17 rfl (fun q128 g128 h => ?_) (fun J129 h hJ129 => ?_)))))
       ·refine zac (zy (zg h rfl (fun _ h => ?_) (fun _ h => ?_)))
        ·refine wkf (zt (zh (oM rfl (zI h fun q138 h => oV (zfz (l := q115) rfl hI sl59 (.inr ⟨_, rfl, rfl⟩) (.inl ⟨rfl, rfl⟩) q138.1 q138.2.1 q138.2.2) (oA rfl (zx (zi ?_)))))))
         exact hL116 _ () h _ (ji 9 0 rfl rfl rfl)
        exact zae (zU (eL116 _ _ (zF (hJ106 _ () h _ (ji 17 0 rfl rfl rfl)))))
       refine zav (j := 52) h rfl (fun g130 h => ?_) (fun g130 h => ?_)
       ·refine rvt 52 rfl rfl rfl g130 (zq rfl) (rvt 52 rfl rfl rfl g130 (zq rfl) (zI h fun q131 h => rvt 52 rfl rfl rfl g130 (zfz (l := q115) rfl hI sl59 (.inr ⟨_, rfl, rfl⟩) (.inl ⟨rfl, rfl⟩) q131.1 q131.2.1 q131.2.2) (rvt 52 rfl rfl rfl g130 (zq rfl) (zI h fun q132 h => rvt 52 rfl rfl rfl g130 (zfz (l := q115) rfl hI sl59 (.inr ⟨_, rfl, rfl⟩) (.inl ⟨rfl, rfl⟩) q132.1 q132.2.1 q132.2.2) (rvt 52 rfl rfl rfl g130 (zq rfl) (zI h fun q133 h => ?_))))))
        refine rvt 52 rfl rfl rfl g130 (zfz (l := q115) rfl hI sl59 (.inr ⟨_, rfl, rfl⟩) (.inl ⟨rfl, rfl⟩) q133.1 q133.2.1 q133.2.2) (zb h fun y134 hy134 h => zeP rfl rfl rfl (dj := 52) rfl g130 (zA (zby hy134) hT (s1 rfl) .nil (zb h fun y135 hy135 h => zeP rfl rfl rfl (dj := 52) rfl g130 (zA (zby hy135) hT (s1 rfl) .nil (rvt 52 rfl rfl rfl g130 (zfe rfl rfl) (zb h fun y136 hy136 h => zeP rfl rfl rfl (dj := 52) rfl g130 (zA (zby hy136) hT (s1 rfl) .nil (zb h fun y137 hy137 h => ?_))))))))
        exact zeP rfl rfl rfl (dj := 52) rfl g130 (zA (zby hy137) hT (s1 rfl) .nil (rvt 52 rfl rfl rfl g130 (zfe rfl rfl) (rvt 52 rfl rfl rfl g130 (zfe rfl rfl) (rvt 52 rfl rfl rfl g130 (zkm rfl rfl) (rvt 52 rfl rfl rfl g130 (ziq rfl rfl) (zp rfl (zs rfl g130 rfl) (hJ129 _ () h _ (ji 17 69 rfl rfl rfl))))))))
       refine rpv 52 rfl rfl rfl g130 (rpv 52 rfl rfl rfl g130 (rpv 52 rfl rfl rfl g130 (rpv 52 rfl rfl rfl g130 (rpv 52 rfl rfl rfl g130 (rpv 52 rfl rfl rfl g130 (rpv 52 rfl rfl rfl g130 (zb6 rfl rfl (dj := 52) rfl g130 (zb6 rfl rfl (dj := 52) rfl g130 ?_))))))))
       exact rpv 52 rfl rfl rfl g130 (zb6 rfl rfl (dj := 52) rfl g130 (zb6 rfl rfl (dj := 52) rfl g130 (rpv 52 rfl rfl rfl g130 (rpv 52 rfl rfl rfl g130 (rpv 52 rfl rfl rfl g130 (rpv 52 rfl rfl rfl g130 (zp rfl (zr rfl g130 rfl) (hJ129 _ () h _ (ji 17 69 rfl rfl rfl)))))))))
      exact zab (hJ106 _ () h _ (ji 8 0 rfl rfl rfl))
     refine zav (j := 37) h rfl (fun g110 h => ?_) (fun g110 h => ?_)
     ·refine rvt 37 rfl rfl rfl g110 (zq rfl) (rvt 37 rfl rfl rfl g110 (zq rfl) (zI h fun q111 h => rvt 37 rfl rfl rfl g110 (zfz (l := ((((q2.take ((q2.length : Int)).toNat).drop ((1 : Int)).toNat).take ((((q2.take ((q2.length : Int)).toNat).drop ((1 : Int)).toNat).length : Int)).toNat).drop ((8 : Int)).toNat)) rfl hI sl59 (.inr ⟨_, rfl, rfl⟩) (.inl ⟨rfl, rfl⟩) q111.1 q111.2.1 q111.2.2) (zb h fun y112 hy112 h => zeP rfl rfl rfl (dj := 37) rfl g110 (zA (zby hy112) hT (s1 rfl) .nil (zb h fun y113 hy113 h => zeP rfl rfl rfl (dj := 37) rfl g110 (zA (zby hy113) hT (s1 rfl) .nil (rvt 37 rfl rfl rfl g110 (zfe rfl rfl) ?_)))))))
      exact rvt 37 rfl rfl rfl g110 (zkm rfl rfl) (rvt 37 rfl rfl rfl g110 (ziq rfl rfl) (zp rfl (zs rfl g110 rfl) (hJ109 _ () h _ (ji 9 46 rfl rfl rfl))))
     refine rpv 37 rfl rfl rfl g110 (rpv 37 rfl rfl rfl g110 (rpv 37 rfl rfl rfl g110 (zb6 rfl rfl (dj := 37) rfl g110 (zb6 rfl rfl (dj := 37) rfl g110 (rpv 37 rfl rfl rfl g110 (rpv 37 rfl rfl rfl g110 (rpv 37 rfl rfl rfl g110 (zp rfl (zr rfl g110 rfl) ?_))))))))
     exact hJ109 _ () h _ (ji 9 46 rfl rfl rfl)
    exact zab (hJ106 _ () h _ (ji 0 0 rfl rfl rfl))
   refine zC (j := 26) h rfl (fun g103 h => ?_) (fun g103 h => ?_)
   ·exact oK 26 rfl rfl rfl g103 (zq rfl) (zb h fun y104 hy104 h => zaF rfl rfl (dj := 26) rfl g103 (zA (zby hy104) hT (s1 rfl) .nil (oK 26 rfl rfl rfl g103 (zkm rfl rfl) (oK 26 rfl rfl rfl g103 (ziq rfl rfl) (oV (zs rfl g103 rfl) (hJ102 _ () h _ (ji 5 31 rfl rfl rfl)))))))
   exact oP 26 rfl rfl g103 (oP 26 rfl rfl g103 (oP 26 rfl rfl g103 (oP 26 rfl rfl g103 (oV (zr rfl g103 rfl) (hJ102 _ () h _ (ji 5 31 rfl rfl rfl))))))
  refine wkf (wsr (oM rfl (oV (zpO zlb ar164 rfl) (oV (zpG hT ty5 rfl _ zgp) (oA rfl (rnf (wsr (oM rfl ?_))))))))
  refine oV (zpf rfl rfl) (oV (zpw Tryd.underlying5 Tryd.underlying3 rfl) (oA rfl (rnf (wsr (oM rfl (zar h fun q140 h => oV (zpa rfl rfl q140) (zar h fun q141 h => ?_)))))))
  refine oV (zpS zgp ar167 rfl q141) (oV (zpx hT ty166 rfl q141 _ zlb) (oT (zag _ ze166 fun b142 => oT (zk (y' := ((tab2 (shr8 (tab1 y99) (4 : UInt64).toNat)) : GAcc)) ty166 rfl rfl hI .here rfl (zQ (zas 6 .here rfl) (rnf (wsr (oM rfl (rnf ?_)))))))))
  refine zt (wsr (oV (zao rfl rfl) (oA rfl (rnf (zg h rfl (fun _ h => ?_) (fun _ h => ?_))))))
  ·refine zj (zj (zS (.v 0 (.v 1 (.v 2 (.v 3 (.v 4 (.v 5 (.v 6 (.v 7 (.v 8 (.v 9 (.v 10 (.v 11 (.v 12 (.v 13 (.v 14 (.v 15 (.v 16 (.v 17 (.v 18 .nil))))))))))))))))))) moOrd (by kernel_rfl) ?_))
   refine rvm rfl rfl (zp rfl (zaR (l := q2) rfl hI sl59) (zp rfl (zai rfl rfl) (rvm rfl rfl (zcV (jb 95) je .nil h 7 rfl (fun q143 g143 h => ?_) (fun J144 h hJ144 => ?_)))))
   ·refine rvm rfl rfl (zcV (jb 103) je .nil h 7 rfl (fun q147 g147 h => ?_) (fun J148 h hJ148 => ?_))
    ·refine zac (zy (zg h rfl (fun _ h => ?_) (fun _ h => ?_)))
     ·refine wsr (oA rfl (rnf (zK (zB (zG (zG (rL3 _ (zG ?_))))))))
      refine zB ?_
      cases h
      exact zo (.tmp rfl .nil) .nil ⟨rfl, rfl⟩
     refine wkf (zh (oM rfl (zI h fun q151 h => oV (zfz (l := q2) rfl hI sl59 (.inr ⟨_, rfl, rfl⟩) (.inl ⟨rfl, rfl⟩) q151.1 q151.2.1 q151.2.2) (oA rfl (zx (zi (zi ?_)))))))
     exact hL3 _ () h _ (ji 37 0 rfl rfl rfl)
    refine zav (j := 96) h rfl (fun g149 h => ?_) (fun g149 h => ?_)
    ·exact rpv 96 rfl rfl rfl g149 (rpv 96 rfl rfl rfl g149 (rpv 96 rfl rfl rfl g149 (rpv 96 rfl rfl rfl g149 (rpv 96 rfl rfl rfl g149 (rpv 96 rfl rfl rfl g149 (zp rfl (zs rfl g149 rfl) (hJ148 _ () h _ (ji 7 103 rfl rfl rfl))))))))
    exact rvt 96 rfl rfl rfl g149 (zZ rfl GAcc.f1 zjX rfl (z := (tab2 (shr8 (tab1 y99) (4 : UInt64).toNat)).hi)) (rvt 96 rfl rfl rfl g149 (zf ty5 rfl) (rvt 96 rfl rfl rfl g149 (zq rfl) (zb h fun y150 hy150 h => rvt 96 rfl rfl rfl g149 (zaB (l := q2) rfl hI rfl sl59 hy150) (rvt 96 rfl rfl rfl g149 (zf ty5 rfl) (rvt 96 rfl rfl rfl g149 (zer rfl rfl) (zp rfl (zr rfl g149 rfl) (hJ148 _ () h _ (ji 7 103 rfl rfl rfl))))))))
   refine zav (j := 88) h rfl (fun g145 h => ?_) (fun g145 h => ?_)
   ·exact rpv 88 rfl rfl rfl g145 (rpv 88 rfl rfl rfl g145 (rpv 88 rfl rfl rfl g145 (rpv 88 rfl rfl rfl g145 (rpv 88 rfl rfl rfl g145 (rpv 88 rfl rfl rfl g145 (zp rfl (zs rfl g145 rfl) (hJ144 _ () h _ (ji 7 95 rfl rfl rfl))))))))
   exact rvt 88 rfl rfl rfl g145 (zq rfl) (zb h fun y146 hy146 h => rvt 88 rfl rfl rfl g145 (zaB (l := q2) rfl hI rfl sl59 hy146) (rvt 88 rfl rfl rfl g145 (zf ty5 rfl) (rvt 88 rfl rfl rfl g145 (zZ rfl GAcc.f0 zjN rfl (z := (tab2 (shr8 (tab1 y99) (4 : UInt64).toNat)).lo)) (rvt 88 rfl rfl rfl g145 (zf ty5 rfl) (rvt 88 rfl rfl rfl g145 (zer rfl rfl) (zp rfl (zr rfl g145 rfl) (hJ144 _ () h _ (ji 7 95 rfl rfl rfl))))))))
  refine wsr (oV (zao rfl rfl) (oA rfl (rnf (zg h rfl (fun _ h => ?_) (fun _ h => ?_)))))
  ·refine zj (zj (zS (.v 0 (.v 1 (.v 2 (.v 3 (.v 4 (.v 5 (.v 6 (.v 7 (.v 8 (.v 9 (.v 10 (.v 11 (.v 12 (.v 13 (.v 14 (.v 15 (.v 16 (.v 17 (.v 18 (.v 19 (.v 20 (.v 21 (.v 22 (.v 23 (.v 24 (.v 25 (.v 26 (.v 27 (.v 28 (.v 29 (.v 30 .nil))))))))))))))))))))))))))))))) moOrd (by kernel_rfl) ?_))
   refine rvm rfl rfl (zp rfl (zaR (l := q2) rfl hI sl59) (zp rfl (zai rfl rfl) (rvm rfl rfl (zcV (jb 118) je .nil h 7 rfl (fun q152 g152 h => ?_) (fun J153 h hJ153 => ?_)))))
   ·refine rvm rfl rfl (zcV (jb 126) je .nil h 7 rfl (fun q156 g156 h => ?_) (fun J157 h hJ157 => ?_))
    ·refine rvm rfl rfl (zcV (jb 132) je .nil h 5 rfl (fun q160 g160 h => ?_) (fun J161 h hJ161 => ?_))
     ·refine rvm rfl rfl (zcV (jb 138) je .nil h 5 rfl (fun q164 g164 h => ?_) (fun J165 h hJ165 => ?_))
      ·refine zac (zy (zg h rfl (fun _ h => ?_) (fun _ h => ?_)))
       ·refine wsr (oA rfl (rnf (zK (zB (zG (zG (rL3 _ (zG ?_))))))))
        refine zB ?_
        cases h
        exact zo (.tmp rfl .nil) .nil ⟨rfl, rfl⟩
       refine wkf (zh (oM rfl (zI h fun q168 h => oV (zfz (l := q2) rfl hI sl59 (.inr ⟨_, rfl, rfl⟩) (.inl ⟨rfl, rfl⟩) q168.1 q168.2.1 q168.2.2) (oA rfl (zx (zi (zi ?_)))))))
       exact hL3 _ () h _ (ji 43 0 rfl rfl rfl)
      refine zav (j := 133) h rfl (fun g166 h => ?_) (fun g166 h => ?_)
      ·exact rpv 133 rfl rfl rfl g166 (rpv 133 rfl rfl rfl g166 (rpv 133 rfl rfl rfl g166 (rpv 133 rfl rfl rfl g166 (zp rfl (zs rfl g166 rfl) (hJ165 _ () h _ (ji 5 138 rfl rfl rfl))))))
      exact rvt 133 rfl rfl rfl g166 (zq rfl) (zb h fun y167 hy167 h => rvt 133 rfl rfl rfl g166 (zaB (l := q2) rfl hI rfl sl59 hy167) (rvt 133 rfl rfl rfl g166 (zf ty5 rfl) (rvt 133 rfl rfl rfl g166 (zer rfl rfl) (zp rfl (zr rfl g166 rfl) (hJ165 _ () h _ (ji 5 138 rfl rfl rfl))))))
     refine zav (j := 127) h rfl (fun g162 h => ?_) (fun g162 h => ?_)
     ·exact rpv 127 rfl rfl rfl g162 (rpv 127 rfl rfl rfl g162 (rpv 127 rfl rfl rfl g162 (rpv 127 rfl rfl rfl g162 (zp rfl (zs rfl g162 rfl) (hJ161 _ () h _ (ji 5 132 rfl rfl rfl))))))
     exact rvt 127 rfl rfl rfl g162 (zq rfl) (zb h fun y163 hy163 h => rvt 127 rfl rfl rfl g162 (zaB (l := q2) rfl hI rfl sl59 hy163) (rvt 127 rfl rfl rfl g162 (zf ty5 rfl) (rvt 127 rfl rfl rfl g162 (zer rfl rfl) (zp rfl (zr rfl g162 rfl) (hJ161 _ () h _ (ji 5 132 rfl rfl rfl))))))
    refine zav (j := 119) h rfl (fun g158 h => ?_) (fun g158 h => ?_)
    ·exact rpv 119 rfl rfl rfl g158 (rpv 119 rfl rfl rfl g158 (rpv 119 rfl rfl rfl g158 (rpv 119 rfl rfl rfl g158 (rpv 119 rfl rfl rfl g158 (rpv 119 rfl rfl rfl g158 (zp rfl (zs rfl g158 rfl) (hJ157 _ () h _ (ji 7 126 rfl rfl rfl))))))))
    exact rvt 119 rfl rfl rfl g158 (zZ rfl GAcc.f1 zjX rfl (z := (tab2 (shr8 (tab1 y99) (4 : UInt64).toNat)).hi)) (rvt 119 rfl rfl rfl g158 (zf ty5 rfl) (rvt 119 rfl rfl rfl g158 (zq rfl) (zb h fun y159 hy159 h => rvt 119 rfl rfl rfl g158 (zaB (l := q2) rfl hI rfl sl59 hy159) (rvt 119 rfl rfl rfl g158 (zf ty5 rfl) (rvt 119 rfl rfl rfl g158 (zer rfl rfl) (zp rfl (zr rfl g158 rfl) (hJ157 _ () h _ (ji 7 126 rfl rfl rfl))))))))
   refine zav (j := 111) h rfl (fun g154 h => ?_) (fun g154 h => ?_)
   ·exact rpv 111 rfl rfl rfl g154 (rpv 111 rfl rfl rfl g154 (rpv 111 rfl rfl rfl g154 (rpv 111 rfl rfl rfl g154 (rpv 111 rfl rfl rfl g154 (rpv 111 rfl rfl rfl g154 (zp rfl (zs rfl g154 rfl) (hJ153 _ () h _ (ji 7 118 rfl rfl rfl))))))))
   exact rvt 111 rfl rfl rfl g154 (zq rfl) (zb h fun y155 hy155 h => rvt 111 rfl rfl rfl g154 (zaB (l := q2) rfl hI rfl sl59 hy155) (rvt 111 rfl rfl rfl g154 (zf ty5 rfl) (rvt 111 rfl rfl rfl g154 (zZ rfl GAcc.f0 zjN rfl (z := (tab2 (shr8 (tab1 y99) (4 : UInt64).toNat)).lo)) (rvt 111 rfl rfl rfl g154 (zf ty5 rfl) (rvt 111 rfl rfl rfl g154 (zer rfl rfl) (zp rfl (zr rfl g154 rfl) (hJ153 _ () h _ (ji 7 118 rfl rfl rfl))))))))
  refine wsr (oV (zao rfl rfl) (oA rfl (rnf (zg h rfl (fun _ h => ?_) (fun _ h => ?_)))))
  ·refine zj (zj (zS (.v 0 (.v 1 (.v 2 (.v 3 (.v 4 (.v 5 (.v 6 (.v 7 (.v 8 (.v 9 (.v 10 (.v 11 (.v 12 (.v 13 (.v 14 (.v 15 (.v 16 (.v 17 (.v 18 (.v 19 (.v 20 (.v 21 (.v 22 (.v 23 (.v 24 (.v 25 (.v 26 (.v 27 (.v 28 (.v 29 (.v 30 (.v 31 (.v 32 (.v 33 (.v 34 (.v 35 (.v 36 (.v 37 (.v 38 (.v 39 (.v 40 (.v 41 (.v 42 .nil))))))))))))))))))))))))))))))))))))))))))) moOrd (by kernel_rfl) ?_))
   refine rvm rfl rfl (zp rfl (zaR (l := q2) rfl hI sl59) (zp rfl (zai rfl rfl) (rvm rfl rfl (zcV (jb 153) je .nil h 7 rfl (fun q169 g169 h => ?_) (fun J170 h hJ170 => ?_)))))
   ·refine rvm rfl rfl (zcV (jb 161) je .nil h 7 rfl (fun q173 g173 h => ?_) (fun J174 h hJ174 => ?_))
    ·refine rvm rfl rfl (zcV (jb 167) je .nil h 5 rfl (fun q177 g177 h => ?_) (fun J178 h hJ178 => ?_))
     ·refine rvm rfl rfl (zcV (jb 173) je .nil h 5 rfl (fun q181 g181 h => ?_) (fun J182 h hJ182 => ?_))
      ·refine rvm rfl rfl (zcV (jb 179) je .nil h 5 rfl (fun q185 g185 h => ?_) (fun J186 h hJ186 => ?_))
       ·refine rvm rfl rfl (zcV (jb 185) je .nil h 5 rfl (fun q189 g189 h => ?_) (fun J190 h hJ190 => ?_))
        ·refine zac (zy (zg h rfl (fun _ h => ?_) (fun _ h => ?_)))
         ·refine wsr (oA rfl (rnf (zK (zB (zG (zG (rL3 _ (zG ?_))))))))
          refine zB ?_
          cases h
          exact zo (.tmp rfl .nil) .nil ⟨rfl, rfl⟩
         refine wkf (zh (oM rfl (zI h fun q193 h => oV (zfz (l := q2) rfl hI sl59 (.inr ⟨_, rfl, rfl⟩) (.inl ⟨rfl, rfl⟩) q193.1 q193.2.1 q193.2.2) (oA rfl (zx (zi (zi ?_)))))))
         exact hL3 _ () h _ (ji 49 0 rfl rfl rfl)
        refine zav (j := 180) h rfl (fun g191 h => ?_) (fun g191 h => ?_)
        ·exact rpv 180 rfl rfl rfl g191 (rpv 180 rfl rfl rfl g191 (rpv 180 rfl rfl rfl g191 (rpv 180 rfl rfl rfl g191 (zp rfl (zs rfl g191 rfl) (hJ190 _ () h _ (ji 5 185 rfl rfl rfl))))))
        exact rvt 180 rfl rfl rfl g191 (zq rfl) (zb h fun y192 hy192 h => rvt 180 rfl rfl rfl g191 (zaB (l := q2) rfl hI rfl sl59 hy192) (rvt 180 rfl rfl rfl g191 (zf ty5 rfl) (rvt 180 rfl rfl rfl g191 (zer rfl rfl) (zp rfl (zr rfl g191 rfl) (hJ190 _ () h _ (ji 5 185 rfl rfl rfl))))))
       refine zav (j := 174) h rfl (fun g187 h => ?_) (fun g187 h => ?_)
       ·exact rpv 174 rfl rfl rfl g187 (rpv 174 rfl rfl rfl g187 (rpv 174 rfl rfl rfl g187 (rpv 174 rfl rfl rfl g187 (zp rfl (zs rfl g187 rfl) (hJ186 _ () h _ (ji 5 179 rfl rfl rfl))))))
       exact rvt 174 rfl rfl rfl g187 (zq rfl) (zb h fun y188 hy188 h => rvt 174 rfl rfl rfl g187 (zaB (l := q2) rfl hI rfl sl59 hy188) (rvt 174 rfl rfl rfl g187 (zf ty5 rfl) (rvt 174 rfl rfl rfl g187 (zer rfl rfl) (zp rfl (zr rfl g187 rfl) (hJ186 _ () h _ (ji 5 179 rfl rfl rfl))))))
      refine zav (j := 168) h rfl (fun g183 h => ?_) (fun g183 h => ?_)
      ·exact rpv 168 rfl rfl rfl g183 (rpv 168 rfl rfl rfl g183 (rpv 168 rfl rfl rfl g183 (rpv 168 rfl rfl rfl g183 (zp rfl (zs rfl g183 rfl) (hJ182 _ () h _ (ji 5 173 rfl rfl rfl))))))
      exact rvt 168 rfl rfl rfl g183 (zq rfl) (zb h fun y184 hy184 h => rvt 168 rfl rfl rfl g183 (zaB (l := q2) rfl hI rfl sl59 hy184) (rvt 168 rfl rfl rfl g183 (zf ty5 rfl) (rvt 168 rfl rfl rfl g183 (zer rfl rfl) (zp rfl (zr rfl g183 rfl) (hJ182 _ () h _ (ji 5 173 rfl rfl rfl))))))
     refine zav (j := 162) h rfl (fun g179 h => ?_) (fun g179 h => ?_)
     ·exact rpv 162 rfl rfl rfl g179 (rpv 162 rfl rfl rfl g179 (rpv 162 rfl rfl rfl g179 (rpv 162 rfl rfl rfl g179 (zp rfl (zs rfl g179 rfl) (hJ178 _ () h _ (ji 5 167 rfl rfl rfl))))))
     exact rvt 162 rfl rfl rfl g179 (zq rfl) (zb h fun y180 hy180 h => rvt 162 rfl rfl rfl g179 (zaB (l := q2) rfl hI rfl sl59 hy180) (rvt 162 rfl rfl rfl g179 (zf ty5 rfl) (rvt 162 rfl rfl rfl g179 (zer rfl rfl) (zp rfl (zr rfl g179 rfl) (hJ178 _ () h _ (ji 5 167 rfl rfl rfl))))))
    refine zav (j := 154) h rfl (fun g175 h => ?_) (fun g175 h => ?_)
    ·exact rpv 154 rfl rfl rfl g175 (rpv 154 rfl rfl rfl g175 (rpv 154 rfl rfl rfl g175 (rpv 154 rfl rfl rfl g175 (rpv 154 rfl rfl rfl g175 (rpv 154 rfl rfl rfl g175 (zp rfl (zs rfl g175 rfl) (hJ174 _ () h _ (ji 7 161 rfl rfl rfl))))))))
    exact rvt 154 rfl rfl rfl g175 (zZ rfl GAcc.f1 zjX rfl (z := (tab2 (shr8 (tab1 y99) (4 : UInt64).toNat)).hi)) (rvt 154 rfl rfl rfl g175 (zf ty5 rfl) (rvt 154 rfl rfl rfl g175 (zq rfl) (zb h fun y176 hy176 h => rvt 154 rfl rfl rfl g175 (zaB (l := q2) rfl hI rfl sl59 hy176) (rvt 154 rfl rfl rfl g175 (zf ty5 rfl) (rvt 154 rfl rfl rfl g175 (zer rfl rfl) (zp rfl (zr rfl g175 rfl) (hJ174 _ () h _ (ji 7 161 rfl rfl rfl))))))))
   refine zav (j := 146) h rfl (fun g171 h => ?_) (fun g171 h => ?_)
   ·exact rpv 146 rfl rfl rfl g171 (rpv 146 rfl rfl rfl g171 (rpv 146 rfl rfl rfl g171 (rpv 146 rfl rfl rfl g171 (rpv 146 rfl rfl rfl g171 (rpv 146 rfl rfl rfl g171 (zp rfl (zs rfl g171 rfl) (hJ170 _ () h _ (ji 7 153 rfl rfl rfl))))))))
   exact rvt 146 rfl rfl rfl g171 (zq rfl) (zb h fun y172 hy172 h => rvt 146 rfl rfl rfl g171 (zaB (l := q2) rfl hI rfl sl59 hy172) (rvt 146 rfl rfl rfl g171 (zf ty5 rfl) (rvt 146 rfl rfl rfl g171 (zZ rfl GAcc.f0 zjN rfl (z := (tab2 (shr8 (tab1 y99) (4 : UInt64).toNat)).lo)) (rvt 146 rfl rfl rfl g171 (zf ty5 rfl) (rvt 146 rfl rfl rfl g171 (zer rfl rfl) (zp rfl (zr rfl g171 rfl) (hJ170 _ () h _ (ji 7 153 rfl rfl rfl))))))))
  refine wsr (oA rfl (rnf (zK (zG (zG (rL3 _ (zG (zB ?_))))))))
  cases h
  exact zo (.tmp rfl .nil) .nil ⟨rfl, rfl⟩
 refine zae (zU (eL3 _ _ (zF (zy (wsr (oA rfl (rnf (zK ?_))))))))
 cases h
 exact zo (.tmp rfl .nil) .nil ⟨rfl, rfl⟩


theorem zgN : ∀ {a_x : GMk} {a_i : Int} {a_v : Val} {zH : Nat} {zah : Vt} {r : Val × GMk}, zcf a_x a_i a_v = some r → Ctr Tryd.prog 113 [ptrv zH (Fld.id (GMod × Vh × Int)), isv (a_i), isv (a_v)] [boxE zH ((a_x.m, (Vh.mk zah a_x.l.length), a_x.e) : (GMod × Vh × Int)), vecE zah (a_x.l : List GTyp)] (fun R H => R = oneOf [isv (r.1)] ∧ H = [boxE zH ((r.2.m, (Vh.mk zah r.2.l.length), r.2.e)), vecE zah (r.2.l)]) := by
 intro a_x a_i a_v zH zah r h
 unfold zcf at h
 refine zu Tryd.func113 rfl fun w0 S0 hT => wsr (oT (zka (y := a_v) rfl hI fun b2 => oT (zag _ ze63 fun b3 => rnf (wsr (oM rfl (oV (zw rfl) (oV (zaj rfl zbB zcB) ?_)))))))
 refine oT (zL (R := vecv zah (a_x.l.length)) ty38 rfl tI isvV1 (oM rfl (zI h fun q4 h => oV (zan (α := GTyp) sl38 rfl rfl q4.1 q4.2) (zb h fun y5 hy5 h => oT (zax ty54 rfl (.there tI) hy5 ?_)))))
 refine oT (zag _ ze54 fun b6 => oT (zk (y' := (y5 : GTyp)) ty54 rfl rfl hI .here rfl (zQ (zas 7 .here rfl) (rnf (wsr (oV (zaj rfl Val.f0 zgl) (oT (zL (R := isv (a_v.kind)) ty3 rfl tH hI (oV (zZ rfl GTyp.f0 zet rfl (z := y5.kind)) (oV (zf ty3 rfl) ?_))))))))))
 refine oV (zao rfl rfl) (oA rfl (rnf (zj (wsr (oV (zZ rfl GTyp.f0 zet rfl (z := y5.kind)) (oV (zf ty3 rfl) (rnf (zdx (ι := Bool × Val) (γ := Unit) (fun q7 g7 => [(5, ptrv b2 (Fld.id Val)), (8, isv (q7.1))]) (fun q7 g7 => [boxE b2 (q7.2 : Val)]) (.cons tH .nil) h (fun q7 g7 h => ?_) (fun J8 h hJ8 => ?_)))))))))
 ·refine zj (wsr (oM rfl (oV (zbt rfl) (rnf (zdx (ι := GMk) (γ := Unit) (fun q51 g51 => []) (fun q51 g51 => [boxE zH ((q51.m, (Vh.mk zah q51.l.length), q51.e) : (GMod × Vh × Int)), vecE zah (q51.l : List GTyp)]) (.cons tI (.cons tI .nil)) h (fun q51 g51 h => ?_) (fun J52 h hJ52 => ?_))))))
  ·refine wsr (oT (zL (R := isv (q7.2)) ty63 rfl tI hI (oT (zk (y' := (q7.2 : Val)) ty63 rfl rfl hI (.there tI) rfl (rnf (zK ?_))))))
   cases h
   exact zo (.cell rfl .here ty63 .nil) (.cons tH (.cons tH .nil)) ⟨rfl, rfl⟩
  refine zg h rfl (fun _ h => ?_) (fun _ h => ?_)
  ·exact zh (oM rfl (zb h fun y53 hy53 h => oT (zA (zbi hy53) hT (s2 rfl rfl) (.cons tI (.cons tI .nil)) (zx (hJ52 _ () h _ (ze 2 rfl rfl zd k4))))))
  exact zab (hJ52 _ () h _ (ze 0 rfl rfl zd (.cons tI (.cons tI k2))))
 refine zt (zj (wsr (oV (zao rfl rfl) (oA rfl (rnf (zdx (jb 24) je .nil h (fun q9 g9 h => ?_) (fun J10 h hJ10 => ?_)))))))
 ·refine zg h rfl (fun _ h => ?_) (fun _ h => ?_)
  ·exact zab (zi (hJ8 _ () h _ (ze 3 rfl rfl (za (j := 5) rfl hI (za (j := 8) rfl hI zd)) (.cons tH k3))))
  refine wsr (oV (zao rfl rfl) (oA rfl (rnf (zg h rfl (fun _ h => ?_) (fun _ h => ?_)))))
  ·refine zh (oM rfl (oM rfl (zaz (jb 36) je .nil h 6 rfl (fun q11 g11 h => ?_) (fun J12 h hJ12 => ?_))))
   ·exact oA rfl (zx (zi (hJ8 _ () h _ (ze 9 rfl rfl (za (j := 5) rfl hI (za (j := 8) rfl hI zd)) (.cons tH k3)))))
   refine zC (j := 30) h rfl (fun g13 h => ?_) (fun g13 h => ?_)
   ·exact oK 30 rfl rfl rfl g13 (zZ rfl GTyp.f2 zlV rfl (z := y5.con)) (oK 30 rfl rfl rfl g13 (zf ty50 rfl) (oK 30 rfl rfl rfl g13 (zaj rfl Val.f1 zjJ) (zaF rfl rfl (dj := 30) rfl g13 (zL (R := isv (a_v.n)) ty2 rfl tH hI (zb h fun y14 hy14 h => zaF rfl rfl (dj := 30) rfl g13 (zA (zhM hy14) hT (s2 rfl rfl) .nil (oV (zs rfl g13 rfl) (hJ12 _ () h _ (ze 6 rfl rfl (za (j := 36) rfl hI zd) k4)))))))))
   exact oP 30 rfl rfl g13 (oP 30 rfl rfl g13 (oP 30 rfl rfl g13 (oP 30 rfl rfl g13 (oP 30 rfl rfl g13 (oV (zr rfl g13 rfl) (hJ12 _ () h _ (ze 6 rfl rfl (za (j := 36) rfl hI zd) k4)))))))
  refine zj (wsr (oV (zao rfl rfl) (oA rfl (rnf (zdx (jb 37) je .nil h (fun q15 g15 h => ?_) (fun J16 h hJ16 => ?_))))))
  ·refine zg h rfl (fun _ h => ?_) (fun _ h => ?_)
   ·refine zh (oM rfl (oM rfl (zaz (jb 48) je .nil h 7 rfl (fun q17 g17 h => ?_) (fun J18 h hJ18 => ?_))))
    ·refine oM rfl (zaz (jb 58) je .nil h 9 rfl (fun q21 g21 h => ?_) (fun J22 h hJ22 => ?_))
     ·exact oA rfl (zx (zi (hJ8 _ () h _ (ze 14 rfl rfl (za (j := 5) rfl hI (za (j := 8) rfl hI zd)) (.cons tH k3)))))
     refine zC (j := 49) h rfl (fun g23 h => ?_) (fun g23 h => ?_)
     ·refine oK 49 rfl rfl rfl g23 (zZ rfl GTyp.f0 zet rfl (z := y5.kind)) (oK 49 rfl rfl rfl g23 (zf ty3 rfl) (oK 49 rfl rfl rfl g23 (zao rfl rfl) (oK 49 rfl rfl rfl g23 (zq rfl) (zaz (jb 57) je .nil h 4 rfl (fun q24 g24 h => ?_) (fun J25 h hJ25 => ?_)))))
      ·exact oV (zs rfl g23 rfl) (hJ22 _ () h _ (ze 6 rfl rfl (za (j := 58) rfl hI zd) k4))
      refine zC (j := 53) h rfl (fun g26 h => ?_) (fun g26 h => ?_)
      ·exact oP 53 rfl rfl g26 (oP 53 rfl rfl g26 (oP 53 rfl rfl g26 (oK 49 rfl rfl rfl g23 (zs rfl g26 rfl) (hJ25 _ () h _ (ze 4 rfl rfl (za (j := 57) rfl hI zd) k4)))))
      exact oK 53 rfl rfl rfl g26 (zaj rfl Val.f2 zh5) (zaF rfl rfl (dj := 53) rfl g26 (zL (R := isv (a_v.b)) ty59 rfl tH hI (zb h fun y27 hy27 h => zaF rfl rfl (dj := 53) rfl g26 (zA (zj8 hy27) hT (s1 rfl) .nil (oK 49 rfl rfl rfl g23 (zr rfl g26 rfl) (hJ25 _ () h _ (ze 4 rfl rfl (za (j := 57) rfl hI zd) k4)))))))
     refine oP 49 rfl rfl g23 (oP 49 rfl rfl g23 (oP 49 rfl rfl g23 (oP 49 rfl rfl g23 (zE rfl (dj := 53) rfl (zE rfl (dj := 53) rfl (zE rfl (dj := 53) rfl (oP 49 rfl rfl g23 (oV (zr rfl g23 rfl) ?_))))))))
     exact hJ22 _ () h _ (ze 9 rfl rfl (za (j := 58) rfl hI zd) k4)
    refine zC (j := 41) h rfl (fun g19 h => ?_) (fun g19 h => ?_)
    ·exact oK 41 rfl rfl rfl g19 (zZ rfl GTyp.f2 zlV rfl (z := y5.con)) (oK 41 rfl rfl rfl g19 (zf ty50 rfl) (oK 41 rfl rfl rfl g19 (zaj rfl Val.f2 zh5) (zaF rfl rfl (dj := 41) rfl g19 (zL (R := isv (a_v.b)) ty59 rfl tH hI (oK 41 rfl rfl rfl g19 (zaR (l := a_v.b) rfl hI sl59) (zb h fun y20 hy20 h => zaF rfl rfl (dj := 41) rfl g19 (zA (zhM hy20) hT (s2 rfl rfl) .nil (oV (zs rfl g19 rfl) (hJ18 _ () h _ (ze 7 rfl rfl (za (j := 48) rfl hI zd) k4))))))))))
    exact oP 41 rfl rfl g19 (oP 41 rfl rfl g19 (oP 41 rfl rfl g19 (oP 41 rfl rfl g19 (oP 41 rfl rfl g19 (oP 41 rfl rfl g19 (oV (zr rfl g19 rfl) (hJ18 _ () h _ (ze 7 rfl rfl (za (j := 48) rfl hI zd) k4))))))))
   refine wsr (oV (zao rfl rfl) (oA rfl (rnf (zg h rfl (fun _ h => ?_) (fun _ h => ?_)))))
   ·refine wsr (oM rfl (rnf (zg h rfl (fun _ h => ?_) (fun _ h => ?_))))
    ·refine wsr (oA rfl (rnf (wsr (oA rfl (rnf (zt (zaQ (ι := Bool × Int × Val) (γ := Unit) (fun q28 g28 => [(5, ptrv b2 (Fld.id Val)), (8, isv (q28.1)), (9, isv (q28.2.1))]) (fun q28 g28 => [boxE b2 (q28.2.2 : Val)]) h () (za (j := 5) rfl hI (za (j := 8) rfl hI (za (j := 9) rfl hI zd))) (.cons tH .nil) (fun L29 q28 g28 Q50 h hL29 eL29 rL29 => zj ?_))))))))
     refine wsr (oM rfl (oV (zZ rfl GTyp.f5 zeK rfl (z := y5.root)) (oV (zf ty3 rfl) (oV (zai rfl rfl) (oM rfl (zaz (jb 69) je .nil h 3 rfl (fun q40 g40 h => ?_) (fun J41 h hJ41 => ?_)))))))
     ·refine rnf (zg h rfl (fun _ h => ?_) (fun _ h => ?_))
      ·refine wkf (zj (zdx (ι := Bool × Val) (γ := Unit) (fun q43 g43 => [(5, ptrv b2 (Fld.id Val)), (8, isv (q43.1))]) (fun q43 g43 => [boxE b2 (q43.2 : Val)]) k1 h (fun q43 g43 h => ?_) (fun J44 h hJ44 => ?_)))
       ·exact zh (oM rfl (zz h fun q49 h => oV (zaa rfl rfl q49) (oA rfl (zx (hL29 _ () h _ (ze 14 rfl rfl (za (j := 5) rfl hI (za (j := 8) rfl hI (za (j := 9) rfl hI zd))) k4))))))
       refine zt (zj (zc7 5 .here rfl (fun o45 hn46 => zS (.v 0 (.v 1 (.v 2 (.v 3 (.v 4 (.v 5 (.v 6 (.v 7 (.v 8 (.v 9 .nil)))))))))) moOrd (by kernel_rfl) ?_)))
       refine zp rfl (zZ rfl GTyp.f3 zfc rfl (z := y5.items)) (zp rfl (zf ty51 rfl) (rvm rfl rfl (zb h fun y47 hy47 h => zp rfl (zaB (l := y5.items) rfl hI rfl sl51 hy47) (zp rfl (zZ rfl GItem.f0 zkg rfl (z := y47.name)) (zp rfl (zf ty9 rfl) (zp rfl (zf2 rfl Val.f2 zh5) (zp rfl (zdh (R := isv (q28.2.2.b)) ty59 rfl (List.Mem.head _) hI) ?_)))))))
       refine zp rfl (zpU (l := q28.2.2.b) Tryd.underlying59 Tryd.underlying5 Tryd.underlying9 rfl hI) (zp rfl (zcE eq9 rfl rfl) (zac (zaP 5 hn46 rfl (zy (zg h rfl (fun _ h => ?_) (fun _ h => ?_))))))
       ·refine zh (oV (zZ rfl GTyp.f3 zfc rfl (z := y5.items)) (oV (zf ty51 rfl) (oM rfl (zb h fun y48 hy48 h => oV (zaB (l := y5.items) rfl hI rfl sl51 hy48) (oV (zZ rfl GItem.f1 zc5 rfl (z := y48.number)) (oV (zf ty2 rfl) (oV (zaE (z := (Val.mk (3 : Int) y48.number ([] : (List UInt8)) ([] : (List Val)) (0 : Int) ([] : (List Raw)))) rfl bu63 ze63 (.cons Val.f0 zgl rfl hI (.cons Val.f1 zjJ rfl hI .nil))) ?_)))))))
        exact oT (zk (y' := ((Val.mk (3 : Int) y48.number ([] : (List UInt8)) ([] : (List Val)) (0 : Int) ([] : (List Raw))) : Val)) ty63 rfl rfl hI .here rfl (oA rfl (zx (zi (hJ44 _ () h _ (ze 20 rfl rfl (za (j := 5) rfl hI (za (j := 8) rfl hI zd)) k4))))))
       exact zab (zi (hJ44 _ () h _ (ze 12 rfl rfl (za (j := 5) rfl hI (za (j := 8) rfl hI zd)) k4)))
      exact zae (zU (eL29 _ _ (zF (zi (hJ8 _ () h _ (ze 22 rfl rfl (za (j := 5) rfl hI (za (j := 8) rfl hI zd)) k4))))))
     refine zC (j := 66) h rfl (fun g42 h => ?_) (fun g42 h => ?_)
     ·exact oK 66 rfl rfl rfl g42 (zq rfl) (oK 66 rfl rfl rfl g42 (zbt rfl) (oV (zs rfl g42 rfl) (hJ41 _ () h _ (ze 3 rfl rfl (za (j := 69) rfl hI zd) k4))))
     exact oP 66 rfl rfl g42 (oP 66 rfl rfl g42 (oV (zr rfl g42 rfl) (hJ41 _ () h _ (ze 3 rfl rfl (za (j := 69) rfl hI zd) k4))))
    exact zab (zi (hJ8 _ () h _ (ze 11 rfl rfl (za (j := 5) rfl hI (za (j := 8) rfl hI zd)) (.cons tH k3))))
   exact zh (oA rfl (zx (zi (hJ8 _ () h _ (ze 11 rfl rfl (za (j := 5) rfl hI (za (j := 8) rfl hI zd)) (.cons tH k3))))))
  refine zg h rfl (fun _ h => ?_) (fun _ h => ?_)
  ·exact zab (hJ16 _ () h _ (ze 0 rfl rfl (za (j := 37) rfl hI zd) k4))
  exact zh (oV (zao rfl rfl) (oA rfl (zx (hJ16 _ () h _ (ze 2 rfl rfl (za (j := 37) rfl hI zd) k4)))))
 refine zg h rfl (fun _ h => ?_) (fun _ h => ?_)
 ·exact zab (hJ10 _ () h _ (ze 0 rfl rfl (za (j := 24) rfl hI zd) k4))
 exact zh (oV (zao rfl rfl) (oA rfl (zx (hJ10 _ () h _ (ze 2 rfl rfl (za (j := 24) rfl hI zd) k4)))))


theorem zfQ : ∀ {a_x : GMk} {a_i : Int} {zH : Nat} {zah : Vt} {r : Int × GMk}, zcD a_x a_i = some r → Ctr Tryd.prog 91 [ptrv zH (Fld.id (GMod × Vh × Int)), isv (a_i)] [boxE zH ((a_x.m, (Vh.mk zah a_x.l.length), a_x.e) : (GMod × Vh × Int)), vecE zah (a_x.l : List GTyp)] (fun R H => R = oneOf [isv (r.1)] ∧ H = [boxE zH ((r.2.m, (Vh.mk zah r.2.l.length), r.2.e)), vecE zah (r.2.l)]) := by
 intro a_x a_i zH zah r h
 unfold zcD at h
 refine zu Tryd.func91 rfl fun w0 S0 hT => wsr (oA rfl (rnf (zj (wsr (oM rfl (oV (zw rfl) (oV (zaj rfl zbB zcB) ?_)))))))
 refine oT (zL (R := vecv zah (a_x.l.length)) ty38 rfl .here isvV1 (oM rfl (zI h fun q2 h => oV (zan (α := GTyp) sl38 rfl rfl q2.1 q2.2) (oV (zg7 rfl GTyp.f1 zeH) (zb h fun y3 hy3 h => oT (zax ty48 rfl tH hy3 ?_))))))
 refine oV (zaR (l := y3.tags) rfl hI sl48) (oV (zbu rfl rfl) (rnf (zg h rfl (fun _ h => ?_) (fun _ h => ?_))))
 ·refine wsr (oA rfl (rnf (zK (zB ?_))))
  cases h
  exact zo (.tmp rfl .nil) k2 ⟨rfl, rfl⟩
 refine wkf (wsr (oA rfl (rnf (zK ?_))))
 cases h
 exact zo (.tmp rfl .nil) k2 ⟨rfl, rfl⟩


theorem zlC : ∀ {zcU : (List Tag)} {zbq : Int} {zeL : Int} {r : (List Tag) × Int}, zgr zcU zbq zeL = some r → Ctr Tryd.prog 105 [isv (zcU), isv (zbq), isv (zeL)] [] (fun R H => R = oneOf [isv (r.1), isv (r.2)] ∧ H = []) := by
 intro zcU zbq zeL r h
 unfold zgr at h
 refine zu Tryd.func105 rfl fun w0 S0 hT => wsr (oA rfl (oA rfl (rnf (zj (wsr (oM rfl (oV (zai rfl rfl) ?_)))))))
 refine oM rfl (zaz (jb 14) je .nil h 3 rfl (fun q1 g1 h => ?_) (fun J2 h hJ2 => ?_))
 ·refine oM rfl (zaz (jb 23) je .nil h 8 rfl (fun q4 g4 h => ?_) (fun J5 h hJ5 => ?_))
  ·refine rnf (zg h rfl (fun _ h => ?_) (fun _ h => ?_))
   ·refine wsr (oA rfl (oA rfl (rnf (zK (zB ?_)))))
    cases h
    exact zo (.as rfl (zdi (α := Tag)) (.tmp rfl .nil)) .nil ⟨rfl, rfl⟩
   refine wkf (wsr (oM rfl (oV (zaE (z := (Tag.mk (2 : Int) zbq)) rfl bu57 ze57 (.cons Tag.f0 zgh rfl hI (.cons Tag.f1 zem rfl hI .nil))) (oT (zad (l := ([(Tag.mk (2 : Int) zbq)] : (List Tag))) el48 (.cons rfl hI .nil) rfl rfl (oA rfl (rnf (zj (wsr ?_)))))))))
   refine oM rfl (oV (zao rfl rfl) (rnf (zg h rfl (fun _ h => ?_) (fun _ h => ?_))))
   ·refine wsr (oM rfl (oM rfl (zI h fun q11 h => oV (zfz (l := zcU) rfl hI sl48 (.inr ⟨_, rfl, rfl⟩) (.inl ⟨rfl, rfl⟩) q11.1 q11.2.1 q11.2.2) (zQ (za1) (zar h fun q13 h => oT (zbs (l := ([(Tag.mk (2 : Int) zbq)] : (List Tag))) (m := ((zcU.take ((zcU.length : Int)).toNat).drop ((1 : Int)).toNat)) zft rfl hI rfl hI .here q13 fun t12 => oA rfl ?_))))))
    refine oA rfl (rnf (zK (zB ?_)))
    cases h
    exact zo (.as rfl zO (.tmp rfl .nil)) .nil ⟨rfl, rfl⟩
   refine wkf (wsr (oM rfl (oM rfl (zQ (za1) (zar h fun q15 h => oT (zbs (l := ([(Tag.mk (2 : Int) zbq)] : (List Tag))) (m := zcU) zft rfl hI rfl hI .here q15 fun t14 => oA rfl (oA rfl ?_)))))))
   refine rnf (zK ?_)
   cases h
   exact zo (.as rfl zO (.tmp rfl .nil)) .nil ⟨rfl, rfl⟩
  refine zC (j := 15) h rfl (fun g6 h => ?_) (fun g6 h => ?_)
  ·exact oP 15 rfl rfl g6 (oP 15 rfl rfl g6 (oP 15 rfl rfl g6 (zE rfl (dj := 18) rfl (zE rfl (dj := 18) rfl (zE rfl (dj := 18) rfl (oP 15 rfl rfl g6 (oV (zs rfl g6 rfl) (hJ5 _ () h _ (ji 8 23 rfl rfl rfl)))))))))
  refine oK 15 rfl rfl rfl g6 (zq rfl) (oK 15 rfl rfl rfl g6 (zao rfl rfl) (oK 15 rfl rfl rfl g6 (zq rfl) (zaz (jb 22) je .nil h 4 rfl (fun q7 g7 h => ?_) (fun J8 h hJ8 => ?_))))
  ·exact oV (zr rfl g6 rfl) (hJ5 _ () h _ (ji 5 23 rfl rfl rfl))
  refine zC (j := 18) h rfl (fun g9 h => ?_) (fun g9 h => ?_)
  ·exact oK 18 rfl rfl rfl g9 (zq rfl) (oK 18 rfl rfl rfl g9 (zaR (l := zcU) rfl hI sl48) (oK 18 rfl rfl rfl g9 (zao rfl rfl) (oK 15 rfl rfl rfl g6 (zs rfl g9 rfl) (hJ8 _ () h _ (ji 4 22 rfl rfl rfl)))))
  exact oP 18 rfl rfl g9 (oP 18 rfl rfl g9 (oP 18 rfl rfl g9 (oK 15 rfl rfl rfl g6 (zr rfl g9 rfl) (hJ8 _ () h _ (ji 4 22 rfl rfl rfl)))))
 refine zC (j := 11) h rfl (fun g3 h => ?_) (fun g3 h => ?_)
 ·exact oP 11 rfl rfl g3 (oP 11 rfl rfl g3 (oV (zs rfl g3 rfl) (hJ2 _ () h _ (ji 3 14 rfl rfl rfl))))
 exact oK 11 rfl rfl rfl g3 (zq rfl) (oK 11 rfl rfl rfl g3 (zbu rfl rfl) (oV (zr rfl g3 rfl) (hJ2 _ () h _ (ji 3 14 rfl rfl rfl))))


theorem zfW : ∀ {a_x : GMk} {a_i : Int} {zbq : Int} {zeL : Int} {zH : Nat} {zah : Vt} {r : GMk}, zcG a_x a_i zbq zeL = some r → Ctr Tryd.prog 92 [ptrv zH (Fld.id (GMod × Vh × Int)), isv (a_i), isv (zbq), isv (zeL)] [boxE zH ((a_x.m, (Vh.mk zah a_x.l.length), a_x.e) : (GMod × Vh × Int)), vecE zah (a_x.l : List GTyp)] (fun R H => R = oneOf [] ∧ H = [boxE zH ((r.m, (Vh.mk zah r.l.length), r.e)), vecE zah (r.l)]) := by
 intro a_x a_i zbq zeL zH zah r h
 unfold zcG at h
 refine zu Tryd.func92 rfl fun w0 S0 hT => zj (wsr (oM rfl (oV (zw rfl) (oV (zaj rfl zck zdC) (oT (zL (R := isv (a_x.e)) ty31 rfl .here hI (oV (zbP rfl rfl) (rnf ?_))))))))
 refine zg h rfl (fun _ h => ?_) (fun _ h => ?_)
 ·refine zK (zB ?_)
  cases h
  exact zo .nil k2 ⟨rfl, rfl⟩
 refine wkf (wsr (oM rfl (oV (zw rfl) (oV (zaj rfl zbB zcB) (oT (zL (R := vecv zah (a_x.l.length)) ty38 rfl .here isvV1 (oM rfl (zI h fun q2 h => oV (zan (α := GTyp) sl38 rfl rfl q2.1 q2.2) ?_))))))))
 refine oV (zg7 rfl GTyp.f1 zeH) (zb h fun y3 hy3 h => oT (zax ty48 rfl tH hy3 ?_))
 refine oM rfl (oM rfl (zb h fun y4 hy4 h => oT (zA (zlC hy4) hT (s3 rfl rfl rfl) .nil (oM rfl (oV (zaD rfl rfl) (oV (zaD rfl rfl) (oA rfl (oA rfl ?_))))))))
 refine rnf (zj (wsr (oM rfl (oV (zbP rfl rfl) (rnf (zg h rfl (fun _ h => ?_) (fun _ h => ?_)))))))
 ·refine wsr (oM rfl (oM rfl (zb h fun y5 hy5 h => oT (zA (zbi hy5) hT (s2 rfl rfl) k2 (rnf (zK (zB ?_)))))))
  cases h
  exact zo .nil k2 ⟨rfl, rfl⟩
 refine wkf (zh (oM rfl (oV (zw rfl) (oV (zaj rfl zbB zcB) (oT (zL (R := vecv zah (a_x.l.length)) ty38 rfl .here isvV1 (oM rfl (oM rfl (zI h fun q6 h => ?_)))))))))
 refine oV (zan (α := GTyp) sl38 rfl rfl q6.1 q6.2) (oV (zg7 rfl GTyp.f1 zeH) (zb h fun y7 hy7 h => oT (zat ty48 rfl rfl tH hy7 (zQ (zg0 (y := ((a_x.m, (Vh.mk zah (a_x.l.set a_i.toNat ({ y7 with tags := y4.1 })).length), a_x.e) : (GMod × Vh × Int))) tH (fun S => (Cv.pair Cv.id (Cv.pair (Cv.vhe (by first | rfl | simp)) Cv.id)))) ?_))))
 refine zx (zam .nil k2 ?_)
 cases h
 exact ⟨rfl, rfl⟩


def zhh (f' : (List GTyp) → Int → Option (Bool)) : Prop :=
 ∀ {a_l : (List GTyp)} {a_i : Int} {zc2 : Vt} {r : Bool}, f' a_l a_i = some r → Ctr Tryd.prog 124 [vecv zc2 (a_l.length), isv (a_i)] [vecE zc2 (a_l : List GTyp)] (fun R H => R = oneOf [isv (r)] ∧ H = [vecE zc2 (a_l : List GTyp)])
theorem zkB {zgW : (List GTyp) → Int → Option (Bool)} (zlE : zhh zgW) : ∀ {a_l : (List GTyp)} {a_i : Int} {zc2 : Vt} {r : Bool}, zfk zgW a_l a_i = some r → Ctr Tryd.prog 124 [vecv zc2 (a_l.length), isv (a_i)] [vecE zc2 (a_l : List GTyp)] (fun R H => R = oneOf [isv (r)] ∧ H = [vecE zc2 (a_l : List GTyp)]) := by
 intro a_l a_i zc2 r h
 unfold zfk at h
 refine zu Tryd.func124 rfl fun w0 S0 hT => wsr (oA rfl (rnf (zj (wsr (oM rfl (oM rfl (zI h fun q1 h => ?_)))))))
 refine oV (zan (α := GTyp) sl38 rfl rfl q1.1 q1.2) (oV (zg7 rfl GTyp.f0 zet) (zb h fun y2 hy2 h => oT (zax ty3 rfl .here hy2 ?_)))
 refine oV (zbP rfl rfl) (oM rfl (zaz (jb 21) je .nil h 8 rfl (fun q3 g3 h => ?_) (fun J4 h hJ4 => ?_)))
 ·refine rnf (zg h rfl (fun _ h => ?_) (fun _ h => ?_))
  ·refine wsr (oA rfl (rnf (zK (zB ?_))))
   cases h
   exact zo (.tmp rfl .nil) k1 ⟨rfl, rfl⟩
  refine wkf (wsr (oM rfl (oM rfl (zI h fun q8 h => oV (zan (α := GTyp) sl38 rfl rfl q8.1 q8.2) (oV (zg7 rfl GTyp.f6 zjE) (zb h fun y9 hy9 h => oT (zax ty4 rfl .here hy9 ?_)))))))
  refine oA rfl (rnf (zj (wsr (oA rfl (rnf (zt (zaQ (ι := Bool × Int) (γ := Unit) (fun q10 g10 => [(5, isv (q10.1)), (6, isv (q10.2))]) (fun q10 g10 => []) h () (za (j := 5) rfl hI (za (j := 6) rfl hI zd)) .nil (fun L11 q10 g10 Q32 h hL11 eL11 rL11 => zj ?_))))))))
  refine wsr (oM rfl (oM rfl (oM rfl (zI h fun q22 h => oV (zan (α := GTyp) sl38 rfl rfl q22.1 q22.2) (oV (zg7 rfl GTyp.f4 zbE) (zb h fun y23 hy23 h => oT (zax ty52 rfl .here hy23 ?_)))))))
  refine oV (zaR (l := y23.fields) rfl hI sl52) (oV (zai rfl rfl) (rnf (zg h rfl (fun _ h => ?_) (fun _ h => ?_))))
  ·refine wkf (zj (zt (zh (oM rfl (oM rfl (zaz (jb 50) je .nil h 12 rfl (fun q24 g24 h => ?_) (fun J25 h hJ25 => ?_)))))))
   ·refine oA rfl (zx (zi (zy (zh (oM rfl (zz h fun q31 h => oV (zaa rfl rfl q31) (oA rfl ?_)))))))
    exact zx (hL11 _ () h _ (ze 17 rfl rfl (za (j := 5) rfl hI (za (j := 6) rfl hI zd)) k1))
   refine zC (j := 38) h rfl (fun g26 h => ?_) (fun g26 h => ?_)
   ·refine oP 38 rfl rfl g26 (oP 38 rfl rfl g26 (oP 38 rfl rfl g26 (oP 38 rfl rfl g26 (oP 38 rfl rfl g26 (oP 38 rfl rfl g26 (oP 38 rfl rfl g26 (oP 38 rfl rfl g26 (oP 38 rfl rfl g26 ?_))))))))
    exact oP 38 rfl rfl g26 (oP 38 rfl rfl g26 (oV (zs rfl g26 rfl) (hJ25 _ () h _ (jk 12 50 rfl rfl rfl))))
   refine oK 38 rfl rfl rfl g26 (zq rfl) (oK 38 rfl rfl rfl g26 (zq rfl) (oK 38 rfl rfl rfl g26 (zq rfl) (zI h fun q27 h => oK 38 rfl rfl rfl g26 (zan (α := GTyp) sl38 rfl rfl q27.1 q27.2) (oK 38 rfl rfl rfl g26 (zg7 rfl GTyp.f4 zbE) (zb h fun y28 hy28 h => zaF rfl rfl (dj := 38) rfl g26 (zax ty52 rfl .here hy28 ?_))))))
   refine oK 38 rfl rfl rfl g26 (zq rfl) (zb h fun y29 hy29 h => oK 38 rfl rfl rfl g26 (zaB (l := y28.fields) rfl hI rfl sl52 hy29) (oK 38 rfl rfl rfl g26 (zZ rfl GFld.f1 zc6 rfl (z := y29.ty)) (oK 38 rfl rfl rfl g26 (zf ty3 rfl) (zb h fun y30 hy30 h => zaF rfl rfl (dj := 38) rfl g26 (zA (zlE hy30) hT (.cons rfl (fun _ _ h => vecvE (by first | rfl | simp) _ _ h) (s1 rfl)) k1 ?_)))))
   exact oV (zr rfl g26 rfl) (hJ25 _ () h _ (jk 12 50 rfl rfl rfl))
  refine zae (zU (eL11 _ _ (zF (zy (wsr (oM rfl (oA rfl (rnf ?_))))))))
  refine zK ?_
  cases h
  exact zo (.tmp rfl .nil) k1 ⟨rfl, rfl⟩
 refine zC (j := 13) h rfl (fun g5 h => ?_) (fun g5 h => ?_)
 ·exact oP 13 rfl rfl g5 (oP 13 rfl rfl g5 (oP 13 rfl rfl g5 (oP 13 rfl rfl g5 (oP 13 rfl rfl g5 (oP 13 rfl rfl g5 (oP 13 rfl rfl g5 (oV (zs rfl g5 rfl) (hJ4 _ () h _ (jk 8 21 rfl rfl rfl)))))))))
 refine oK 13 rfl rfl rfl g5 (zq rfl) (oK 13 rfl rfl rfl g5 (zq rfl) (zI h fun q6 h => oK 13 rfl rfl rfl g5 (zan (α := GTyp) sl38 rfl rfl q6.1 q6.2) (oK 13 rfl rfl rfl g5 (zg7 rfl GTyp.f1 zeH) (zb h fun y7 hy7 h => zaF rfl rfl (dj := 13) rfl g5 (zax ty48 rfl .here hy7 ?_)))))
 exact oK 13 rfl rfl rfl g5 (zaR (l := y7.tags) rfl hI sl48) (oK 13 rfl rfl rfl g5 (zbu rfl rfl) (oV (zr rfl g5 rfl) (hJ4 _ () h _ (jk 8 21 rfl rfl rfl))))

theorem zgw : ∀ n, zhh (zgL n)
 | 0 => fun h => (by cases h)
 | n + 1 => zkB (zgw n)
theorem zly (n : Nat) : zhh (zgL n) := (zgw n)

def zga (f' : (List GTyp) → Int → Option ((List Tag))) : Prop :=
 ∀ {a_l : (List GTyp)} {a_i : Int} {zc2 : Vt} {r : (List Tag)}, f' a_l a_i = some r → Ctr Tryd.prog 66 [vecv zc2 (a_l.length), isv (a_i)] [vecE zc2 (a_l : List GTyp)] (fun R H => R = oneOf [isv (r)] ∧ H = [vecE zc2 (a_l : List GTyp)])
theorem zjh {zfo : (List GTyp) → Int → Option ((List Tag))} (zjU : zga zfo) : ∀ {a_l : (List GTyp)} {a_i : Int} {zc2 : Vt} {r : (List Tag)}, zd0 zfo a_l a_i = some r → Ctr Tryd.prog 66 [vecv zc2 (a_l.length), isv (a_i)] [vecE zc2 (a_l : List GTyp)] (fun R H => R = oneOf [isv (r)] ∧ H = [vecE zc2 (a_l : List GTyp)]) := by
 intro a_l a_i zc2 r h
 unfold zd0 at h
 refine zu Tryd.func66 rfl fun w0 S0 hT => wsr (oA rfl (rnf (zj (wsr (oM rfl (oM rfl (zI h fun q1 h => ?_)))))))
 refine oV (zan (α := GTyp) sl38 rfl rfl q1.1 q1.2) (oV (zg7 rfl GTyp.f1 zeH) (zb h fun y2 hy2 h => oT (zax ty48 rfl .here hy2 ?_)))
 refine oV (zaR (l := y2.tags) rfl hI sl48) (oV (zbu rfl rfl) (rnf (zg h rfl (fun _ h => ?_) (fun _ h => ?_))))
 ·refine wsr (oM rfl (oM rfl (zI h fun q3 h => oV (zan (α := GTyp) sl38 rfl rfl q3.1 q3.2) (oV (zg7 rfl GTyp.f1 zeH) (zb h fun y4 hy4 h => oT (zax ty48 rfl .here hy4 ?_))))))
  refine zI h fun q5 h => oV (zfz (l := y4.tags) rfl hI sl48 (.inl ⟨rfl, rfl⟩) (.inr ⟨_, rfl, rfl⟩) q5.1 q5.2.1 q5.2.2) (oA rfl (rnf (zK (zB ?_))))
  cases h
  exact zo (.tmp rfl .nil) k1 ⟨rfl, rfl⟩
 refine wkf (wsr (oA rfl (rnf (zj (wsr (oA rfl (rnf (zt ?_))))))))
 refine zgq (za1) (zaQ (ι := (List Tag) × Int) (γ := Tok) (fun q6 g6 => [(5, appv g6 (q6.1)), (6, isv (q6.2))]) (fun q6 g6 => [tokE g6]) h (none) (za (j := 5) rfl zbA (za (j := 6) rfl hI zd)) k1 (fun L7 q6 g6 Q27 h hL7 eL7 rL7 => zj (wsr (oM rfl (oM rfl (oM rfl (zI h fun q17 h => oV (zan (α := GTyp) sl38 rfl rfl q17.1 q17.2) ?_)))))))
 refine oV (zg7 rfl GTyp.f4 zbE) (zb h fun y18 hy18 h => oT (zax ty52 rfl tH hy18 ?_))
 refine oV (zaR (l := y18.fields) rfl hI sl52) (oV (zai rfl rfl) (rnf (zg h rfl (fun _ h => ?_) (fun _ h => ?_))))
 ·refine wkf (zj (zt (zh (oM rfl (oM rfl (oM rfl (oM rfl (zI h fun q19 h => ?_))))))))
  refine oV (zan (α := GTyp) sl38 rfl rfl q19.1 q19.2) (oV (zg7 rfl GTyp.f4 zbE) (zb h fun y20 hy20 h => oT (zax ty52 rfl tH hy20 ?_)))
  refine oM rfl (zb h fun y21 hy21 h => oV (zaB (l := y20.fields) rfl hI rfl sl52 hy21) (oV (zZ rfl GFld.f1 zc6 rfl (z := y21.ty)) (oV (zf ty3 rfl) (zb h fun y22 hy22 h => oT (zA (zjU hy22) hT (.cons rfl (fun _ _ h => vecvE (by first | rfl | simp) _ _ h) (s1 rfl)) (.cons tH .nil) ?_)))))
  refine zar h fun q24 h => oT (zbs (l := q6.1) (m := y22) zft rfl hI rfl hI tH q24 fun t23 => oA rfl (zx (zi (zy (zh (oM rfl (zz h fun q25 h => ?_)))))))
  exact oV (zaa rfl rfl q25) (oA rfl (zx (hL7 _ (t23) h _ (ze 27 rfl rfl (za (j := 5) rfl hI (za (j := 6) rfl hI zd)) k2))))
 refine zae (zU (eL7 _ _ (zF (zy (wsr (oM rfl (oA rfl (rnf ?_))))))))
 refine zK ?_
 cases h
 exact zo (.as rfl zO .nil) (.cons tH .nil) ⟨rfl, rfl⟩

theorem zfF : ∀ n, zga (ze6 n)
 | 0 => fun h => (by cases h)
 | n + 1 => zjh (zfF n)
theorem zjK (n : Nat) : zga (ze6 n) := (zfF n)

theorem ziS : ∀ {a_l : (List Tag)} {a_x : Tag} {r : Bool}, zdV a_l a_x = some r → Ctr Tryd.prog 126 [isv (a_l), isv (a_x)] [] (fun R H => R = oneOf [isv (r)] ∧ H = []) := by
 intro a_l a_x r h
 unfold zdV at h
 refine zu Tryd.func126 rfl fun w0 S0 hT => wsr (oT (zbd (y := a_x) rfl hI (oA rfl (rnf (zj (wsr (oA rfl (rnf ?_))))))))
 refine zt (zaQ (ι := Int) (γ := Unit) (fun q1 g1 => [(5, isv (q1))]) (fun q1 g1 => []) h () (za (j := 5) rfl hI zd) .nil (fun L2 q1 g1 Q7 h hL2 eL2 rL2 => zj (wsr (oM rfl (oM rfl (oV (zaR (l := a_l) rfl hI sl48) (oV (zai rfl rfl) (rnf ?_))))))))
 refine zg h rfl (fun _ h => ?_) (fun _ h => ?_)
 ·refine wkf (zj (zt (zj (zS (.v 0 (.v 1 (.v 2 (.v 3 (.v 4 (.v 5 .nil)))))) moOrd (by kernel_rfl) ?_))))
  refine rvm rfl rfl (rvm rfl rfl (zb h fun y5 hy5 h => zp rfl (zaB (l := a_l) rfl hI rfl sl48 hy5) (zp rfl (zf ty57 rfl) (zp rfl (zf ty57 rfl) (zp rfl (zcE eq57 rfl rfl) (zac (zy ?_)))))))
  refine zg h rfl (fun _ h => ?_) (fun _ h => ?_)
  ·refine wsr (oA rfl (rnf (zK (zG (zB (rL2 _ (zG (zB ?_))))))))
   cases h
   exact zo (.tmp rfl .nil) .nil ⟨rfl, rfl⟩
  refine zab (zi (zy (zh (oM rfl (zz h fun q6 h => oV (zaa rfl rfl q6) (oA rfl (zx ?_)))))))
  exact hL2 _ () h _ (ji 14 5 rfl rfl rfl)
 refine zae (zU (eL2 _ _ (zF (zy (wsr (oA rfl (rnf (zK ?_))))))))
 cases h
 exact zo (.tmp rfl .nil) .nil ⟨rfl, rfl⟩

end Go.Proofs.Q


namespace Go.Proofs.Q
open Go.Sy
set_option maxRecDepth 4000
theorem zja : ∀ {zeM : (List (List Tag))} {r : Bool}, zea zeM = some r → Ctr Tryd.prog 125 [isv (zeM)] [] (fun R H => R = oneOf [isv (r)] ∧ H = []) := by
 intro zeM r h
 unfold zea at h
 refine zu Tryd.func125 rfl fun w0 S0 hT => wsr (oA rfl (rnf (wsr (oA rfl (rnf (zj (wsr ?_)))))))
 refine oA rfl (rnf (zt (zgq (za1) (zaQ (ι := (List Tag) × Int) (γ := Tok) (fun q1 g1 => [(3, appv g1 (q1.1)), (4, isv (q1.2))]) (fun q1 g1 => [tokE g1]) h (none) (za (j := 3) rfl zbA (za (j := 4) rfl hI zd)) k1 (fun L2 q1 g1 Q55 h hL2 eL2 rL2 => zj (wsr (oM rfl (oM rfl ?_))))))))
 refine oV (zaR (l := zeM) rfl hI sl179) (oV (zai rfl rfl) (rnf (zg h rfl (fun _ h => ?_) (fun _ h => ?_))))
 ·refine wkf (zj (zt (wsr (oA rfl (rnf (zt (zaQ (ι := (List Tag) × Int) (γ := Tok) (fun q29 g29 => [(3, appv g29 (q29.1)), (5, isv (q29.2))]) (fun q29 g29 => [tokE g29]) h (g1) (za (j := 3) rfl hI (za (j := 5) rfl hI zd)) k1 (fun L30 q29 g29 Q53 h hL30 eL30 rL30 => zj ?_))))))))
  refine wsr (oM rfl (oM rfl (oM rfl (zb h fun y42 hy42 h => oV (zaB (l := zeM) rfl hI rfl sl179 hy42) (oV (zf ty48 rfl) (oV (zaR (l := y42) rfl hI sl48) (oV (zai rfl rfl) ?_)))))))
  refine rnf (zg h rfl (fun _ h => ?_) (fun _ h => ?_))
  ·refine wkf (zj (zt (zj (wsr (oM rfl (oM rfl (oM rfl (zb h fun y43 hy43 h => ?_))))))))
   refine oV (zaB (l := zeM) rfl hI rfl sl179 hy43) (oV (zf ty48 rfl) (oM rfl (zb h fun y44 hy44 h => oV (zaB (l := y43) rfl hI rfl sl48 hy44) (oV (zf ty57 rfl) (zb h fun y45 hy45 h => oT (zA (ziS hy45) hT (.cons rfl zO (s1 rfl)) .nil (rnf ?_)))))))
   refine zg h rfl (fun _ h => ?_) (fun _ h => ?_)
   ·refine wsr (oA rfl (rnf (zK (zB (zG (zB (rL30 _ (zG ?_))))))))
    refine zG (zB (rL2 _ (zG (zB ?_))))
    cases h
    exact zo (.tmp rfl .nil) .nil ⟨rfl, rfl⟩
   refine wkf (zh (oM rfl (oM rfl (oM rfl (zb h fun y46 hy46 h => oV (zaB (l := zeM) rfl hI rfl sl179 hy46) (oV (zf ty48 rfl) (oM rfl ?_)))))))
   refine zb h fun y47 hy47 h => oV (zaB (l := y46) rfl hI rfl sl48 hy47) (oV (zf ty57 rfl) (oT (zad (l := ([y47] : (List Tag))) el48 (.cons rfl hI .nil) rfl rfl (zar h fun q50 h => oT (zbs (l := q29.1) (m := ([y47] : (List Tag))) zft rfl hI rfl zO .here q50 fun t49 => oA rfl (zx (zi ?_)))))))
   exact zy (zh (oM rfl (zz h fun q51 h => oV (zaa rfl rfl q51) (oA rfl (zx (hL30 _ (t49) h _ (ze 32 rfl rfl (za (j := 3) rfl hI (za (j := 5) rfl hI zd)) k1)))))))
  refine zae (zU (eL30 _ _ (zF (zi (zy (zh (oM rfl (zz h fun q52 h => ?_))))))))
  exact oV (zaa rfl rfl q52) (oA rfl (zx (hL2 _ (g29) h _ (ze 19 rfl rfl (za (j := 3) rfl hI (za (j := 4) rfl hI zd)) k1))))
 refine zae (zU (eL2 _ _ (zF (zy (wsr (oA rfl (rnf (zK ?_))))))))
 cases h
 exact zo (.tmp rfl .nil) .nil ⟨rfl, rfl⟩


theorem zek : ∀ {a_x : GMk} {a_l : (List GFld)} {zhw : Bool} {zH : Nat} {zah : Vt} {r : Bool × GMk}, zbW a_x a_l zhw = some r → Ctr Tryd.prog 119 [ptrv zH (Fld.id (GMod × Vh × Int)), isv (a_l), isv (zhw)] [boxE zH ((a_x.m, (Vh.mk zah a_x.l.length), a_x.e) : (GMod × Vh × Int)), vecE zah (a_x.l : List GTyp)] (fun R H => R = oneOf [isv (r.1)] ∧ H = [boxE zH ((r.2.m, (Vh.mk zah r.2.l.length), r.2.e)), vecE zah (r.2.l)]) := by
 intro a_x a_l zhw zH zah r h
 unfold zbW at h
 refine zu Tryd.func119 rfl fun w0 S0 hT => wsr (oA rfl (rnf (wsr (oA rfl (rnf (zj (wsr ?_)))))))
 refine oA rfl (rnf (zt (zgq (za1) (zaQ (ι := (List (List Tag)) × Int) (γ := Tok) (fun q2 g2 => [(0, ptrv zH (Fld.id (GMod × Vh × Int))), (7, appv g2 (q2.1)), (8, isv (q2.2))]) (fun q2 g2 => [tokE g2]) h (none) (za (j := 0) rfl hI (za (j := 7) rfl zbA (za (j := 8) rfl hI zd))) k1 (fun L3 q2 g2 Q43 h hL3 eL3 rL3 => zj (wsr (oM rfl (oM rfl ?_))))))))
 refine oV (zaR (l := a_l) rfl hI sl52) (oV (zai rfl rfl) (rnf (zg h rfl (fun _ h => ?_) (fun _ h => ?_))))
 ·refine wkf (zj (zt (zj (zj (zc7 0 tH rfl (fun o23 hn24 => zS (.v 0 (.v 1 (.v 2 (.v 3 (.v 4 (.v 5 (.v 6 (.v 7 (.v 8 (.t 9 (.v 10 (.v 11 (.v 12 (.v 13 (.v 14 (.v 15 (.v 16 (.v 17 .nil)))))))))))))))))) moOrd (by kernel_rfl) ?_))))))
  refine rvm rfl rfl (zp rfl (zbr rfl) (zp rfl (zf2 rfl zbB zcB) (zp rfl (zdh (R := vecv zah (a_x.l.length)) ty38 rfl (List.Mem.head _) isvV1) (rvm rfl rfl (rvm rfl rfl (zb h fun y25 hy25 h => zp rfl (zaB (l := a_l) rfl hI rfl sl52 hy25) (zp rfl (zZ rfl GFld.f1 zc6 rfl (z := y25.ty)) ?_)))))))
  refine zp rfl (zf ty3 rfl) (zb h fun y26 hy26 h => zT rfl rfl (zA (zly fuel hy26) hT (.cons rfl (fun _ _ h => vecvE (by first | rfl | simp) _ _ h) (s1 rfl)) (.cons tH .nil) ?_))
  refine rvm rfl rfl (zcV (jb 32) je .nil h 7 rfl (fun q27 g27 h => ?_) (fun J28 h hJ28 => ?_))
  ·refine zac (zaP 0 hn24 rfl (zy (zg h rfl (fun _ h => ?_) (fun _ h => ?_))))
   ·refine wsr (oA rfl (rnf (zK (zB (zG (zB (rL3 _ (zG ?_))))))))
    refine zB ?_
    cases h
    exact zo (.tmp rfl .nil) k2 ⟨rfl, rfl⟩
   refine wkf (zc7 0 .here rfl (fun o33 hn34 => zS (.v 0 (.v 1 (.v 2 (.v 3 (.v 4 (.v 5 (.v 6 (.v 7 (.v 8 (.v 9 (.t 10 (.t 11 (.t 12 (.v 13 .nil)))))))))))))) moOrd (by kernel_rfl) ?_))
   refine rvm rfl rfl (rvm rfl rfl (zp rfl (zbr rfl) (zp rfl (zf2 rfl zbB zcB) (zp rfl (zdh (R := vecv zah (a_x.l.length)) ty38 rfl (List.Mem.head _) isvV1) (rvm rfl rfl (rvm rfl rfl (zb h fun y35 hy35 h => zp rfl (zaB (l := a_l) rfl hI rfl sl52 hy35) ?_)))))))
   refine zp rfl (zZ rfl GFld.f1 zc6 rfl (z := y35.ty)) (zp rfl (zf ty3 rfl) (zb h fun y36 hy36 h => zT rfl rfl (zA (zjK fuel hy36) hT (.cons rfl (fun _ _ h => vecvE (by first | rfl | simp) _ _ h) (s1 rfl)) k1 ?_)))
   refine zT rfl rfl (zad (l := ([y36] : (List (List Tag)))) el179 (.cons rfl hI .nil) rfl rfl (zar h fun q39 h => zT rfl rfl (zbs (l := q2.1) (m := ([y36] : (List (List Tag)))) zmZ rfl hI rfl zO tH q39 fun t38 => zp rfl (zaX rfl) (zac (zaP 0 hn34 rfl (zi (zy (zh ?_))))))))
   exact oM rfl (zz h fun q40 h => oV (zaa rfl rfl q40) (oA rfl (zx (hL3 _ (t38) h _ (ze 40 rfl rfl (za (j := 0) rfl hI (za (j := 7) rfl hI (za (j := 8) rfl hI zd))) (.cons tH k2))))))
  refine zav (j := 25) h rfl (fun g29 h => ?_) (fun g29 h => ?_)
  ·refine rvt 25 rfl rfl rfl g29 (zq rfl) (rvt 25 rfl rfl rfl g29 (zq rfl) (zcV (jb 31) je .nil h 4 rfl (fun q30 g30 h => ?_) (fun J31 h hJ31 => ?_)))
   ·exact zp rfl (zs rfl g29 rfl) (hJ28 _ () h _ (ze 4 rfl rfl (za (j := 32) rfl hI zd) k2))
   refine zav (j := 27) h rfl (fun g32 h => ?_) (fun g32 h => ?_)
   ·exact rpv 27 rfl rfl rfl g32 (rpv 27 rfl rfl rfl g32 (rpv 27 rfl rfl rfl g32 (rvt 25 rfl rfl rfl g29 (zs rfl g32 rfl) (hJ31 _ () h _ (ze 4 rfl rfl (za (j := 31) rfl hI zd) k2)))))
   exact rvt 27 rfl rfl rfl g32 (zq rfl) (rvt 27 rfl rfl rfl g32 (zaR (l := a_l) rfl hI sl52) (rvt 27 rfl rfl rfl g32 (zbu rfl rfl) (rvt 25 rfl rfl rfl g29 (zr rfl g32 rfl) (hJ31 _ () h _ (ze 4 rfl rfl (za (j := 31) rfl hI zd) k2)))))
  exact rpv 25 rfl rfl rfl g29 (rpv 25 rfl rfl rfl g29 (zaC rfl rfl (dj := 27) rfl (zaC rfl rfl (dj := 27) rfl (zaC rfl rfl (dj := 27) rfl (rpv 25 rfl rfl rfl g29 (zp rfl (zr rfl g29 rfl) (hJ28 _ () h _ (ze 7 rfl rfl (za (j := 32) rfl hI zd) k2))))))))
 refine zae (zU (eL3 _ _ (zF (zy (wsr (oM rfl (zb h fun y41 hy41 h => oT (zA (zja hy41) hT (.cons rfl zO .nil) .nil ?_))))))))
 refine oA rfl (rnf (zK ?_))
 cases h
 exact zo (.tmp rfl .nil) (.cons tH (.cons tH .nil)) ⟨rfl, rfl⟩


theorem zig : ∀ {a_t : GTyp} {r : (List Bool)}, zeY a_t = some r → Ctr Tryd.prog 120 [isv (a_t)] [] (fun R H => R = oneOf [isv (r)] ∧ H = []) := by
 intro a_t r h
 unfold zeY at h
 refine zu Tryd.func120 rfl fun w0 S0 hT => wsr (oT (zbd (y := a_t) rfl hI (oA rfl (rnf (wsr (oA rfl (rnf (zj ?_))))))))
 refine wsr (oA rfl (rnf (zt (zgq (za1) (zaQ (ι := (List Bool) × Int) (γ := Tok) (fun q1 g1 => [(3, appv g1 (q1.1)), (4, isv (q1.2))]) (fun q1 g1 => [tokE g1]) h (none) (za (j := 3) rfl zbA (za (j := 4) rfl hI zd)) k1 (fun L2 q1 g1 Q28 h hL2 eL2 rL2 => zj (wsr (oM rfl ?_))))))))
 refine oV (zZ rfl GTyp.f4 zbE rfl (z := a_t.fields)) (oV (zf ty52 rfl) (oV (zaR (l := a_t.fields) rfl hI sl52) (oV (zai rfl rfl) (rnf (zg h rfl (fun _ h => ?_) (fun _ h => ?_))))))
 ·refine wkf (zj (zt (zh (oM rfl (oV (zZ rfl GTyp.f4 zbE rfl (z := a_t.fields)) (oV (zf ty52 rfl) (oM rfl (zb h fun y15 hy15 h => ?_))))))))
  refine oV (zaB (l := a_t.fields) rfl hI rfl sl52 hy15) (oV (zZ rfl GFld.f2 znD rfl (z := y15.optional)) (oV (zf ty4 rfl) (oM rfl (zaz (jb 26) je .nil h 7 rfl (fun q16 g16 h => ?_) (fun J17 h hJ17 => ?_)))))
  ·refine oM rfl (zaz (jb 32) je .nil h 5 rfl (fun q20 g20 h => ?_) (fun J21 h hJ21 => ?_))
   ·refine oT (zad (l := ([q20] : (List Bool))) el114 (.cons rfl hI .nil) rfl rfl (zar h fun q25 h => oT (zbs (l := q1.1) (m := ([q20] : (List Bool))) zmW rfl hI rfl zO .here q25 fun t24 => oA rfl (zx (zi (zy (zh (oM rfl ?_))))))))
    exact zz h fun q26 h => oV (zaa rfl rfl q26) (oA rfl (zx (hL2 _ (t24) h _ (ze 24 rfl rfl (za (j := 3) rfl hI (za (j := 4) rfl hI zd)) k1))))
   refine zC (j := 27) h rfl (fun g22 h => ?_) (fun g22 h => ?_)
   ·exact oP 27 rfl rfl g22 (oP 27 rfl rfl g22 (oP 27 rfl rfl g22 (oP 27 rfl rfl g22 (oV (zs rfl g22 rfl) (hJ21 _ () h _ (jk 5 32 rfl rfl rfl))))))
   exact oK 27 rfl rfl rfl g22 (zq rfl) (oK 27 rfl rfl rfl g22 (zZ rfl GTyp.f5 zeK rfl (z := a_t.root)) (oK 27 rfl rfl rfl g22 (zf ty3 rfl) (oK 27 rfl rfl rfl g22 (zed rfl rfl) (oV (zr rfl g22 rfl) (hJ21 _ () h _ (jk 5 32 rfl rfl rfl))))))
  refine zC (j := 19) h rfl (fun g18 h => ?_) (fun g18 h => ?_)
  ·exact oP 19 rfl rfl g18 (oP 19 rfl rfl g18 (oP 19 rfl rfl g18 (oP 19 rfl rfl g18 (oP 19 rfl rfl g18 (oP 19 rfl rfl g18 (oV (zs rfl g18 rfl) (hJ17 _ () h _ (jk 7 26 rfl rfl rfl))))))))
  exact oK 19 rfl rfl rfl g18 (zZ rfl GTyp.f4 zbE rfl (z := a_t.fields)) (oK 19 rfl rfl rfl g18 (zf ty52 rfl) (oK 19 rfl rfl rfl g18 (zq rfl) (zb h fun y19 hy19 h => oK 19 rfl rfl rfl g18 (zaB (l := a_t.fields) rfl hI rfl sl52 hy19) (oK 19 rfl rfl rfl g18 (zZ rfl GFld.f3 zlT rfl (z := y19.has)) (oK 19 rfl rfl rfl g18 (zf ty4 rfl) (oV (zr rfl g18 rfl) (hJ17 _ () h _ (jk 7 26 rfl rfl rfl))))))))
 refine zae (zU (eL2 _ _ (zF (zy (wsr (oM rfl (oA rfl (rnf ?_))))))))
 refine zK ?_
 cases h
 exact zo (.as rfl zO .nil) .nil ⟨rfl, rfl⟩


theorem zlf : ∀ {a_t : GTyp} {r : Int}, zgJ a_t = some r → Ctr Tryd.prog 121 [isv (a_t)] [] (fun R H => R = oneOf [isv (r)] ∧ H = []) := by
 intro a_t r h
 unfold zgJ at h
 refine zu Tryd.func121 rfl fun w0 S0 hT => wsr (oT (zbd (y := a_t) rfl hI (oA rfl (rnf (wsr (oV (zf ty54 rfl) (zb h fun y1 hy1 h => oT (zA (zig hy1) hT (s1 rfl) .nil ?_))))))))
 refine oA rfl (rnf (wsr (oV (zZ rfl GTyp.f5 zeK rfl (z := a_t.root)) (oV (zf ty3 rfl) (oA rfl (rnf (zj (zt ?_))))))))
 refine zaQ (ι := Int) (γ := Unit) (fun q2 g2 => [(4, isv (q2))]) (fun q2 g2 => []) h () (za (j := 4) rfl hI zd) .nil (fun L3 q2 g2 Q16 h hL3 eL3 rL3 => zj (wsr (oM rfl (oV (zbu rfl rfl) (oM rfl (zaz (jb 17) je .nil h 6 rfl (fun q10 g10 h => ?_) (fun J11 h hJ11 => ?_)))))))
 ·refine rnf (zg h rfl (fun _ h => ?_) (fun _ h => ?_))
  ·refine wkf (zt (zh (oM rfl (zz h fun q15 h => oV (zaL rfl rfl q15) (oA rfl (zx (zi ?_)))))))
   exact hL3 _ () h _ (ji 8 4 rfl rfl rfl)
  refine zae (zU (eL3 _ _ (zF (zy (wsr (oM rfl (oA rfl (rnf ?_))))))))
  refine zK ?_
  cases h
  exact zo (.tmp rfl .nil) .nil ⟨rfl, rfl⟩
 refine zC (j := 11) h rfl (fun g12 h => ?_) (fun g12 h => ?_)
 ·exact oK 11 rfl rfl rfl g12 (zq rfl) (oK 11 rfl rfl rfl g12 (zq rfl) (zz h fun q13 h => oK 11 rfl rfl rfl g12 (zaL rfl rfl q13) (zb h fun y14 hy14 h => oK 11 rfl rfl rfl g12 (zaB (l := y1) rfl hI rfl sl114 hy14) (oK 11 rfl rfl rfl g12 (zf ty4 rfl) (oV (zs rfl g12 rfl) (hJ11 _ () h _ (ji 6 17 rfl rfl rfl)))))))
 exact oP 11 rfl rfl g12 (oP 11 rfl rfl g12 (oP 11 rfl rfl g12 (oP 11 rfl rfl g12 (oP 11 rfl rfl g12 (oV (zr rfl g12 rfl) (hJ11 _ () h _ (ji 6 17 rfl rfl rfl)))))))


theorem zhQ : ∀ {a_x : GMk} {a_t : GTyp} {zH : Nat} {zah : Vt} {r : Bool × GMk}, zb4 a_x a_t = some r → Ctr Tryd.prog 114 [ptrv zH (Fld.id (GMod × Vh × Int)), isv (a_t)] [boxE zH ((a_x.m, (Vh.mk zah a_x.l.length), a_x.e) : (GMod × Vh × Int)), vecE zah (a_x.l : List GTyp)] (fun R H => R = oneOf [isv (r.1)] ∧ H = [boxE zH ((r.2.m, (Vh.mk zah r.2.l.length), r.2.e)), vecE zah (r.2.l)]) := by
 intro a_x a_t zH zah r h
 unfold zb4 at h
 refine zu Tryd.func114 rfl fun w0 S0 hT => wsr (oT (zbd (y := a_t) rfl hI (oA rfl (rnf (zj (wsr (oV (zZ rfl GTyp.f0 zet rfl (z := a_t.kind)) (oV (zf ty3 rfl) ?_))))))))
 refine oV (zbP rfl rfl) (rnf (zg h rfl (fun _ h => ?_) (fun _ h => ?_)))
 ·refine wsr (oM rfl (oV (zZ rfl GTyp.f4 zbE rfl (z := a_t.fields)) (oV (zf ty52 rfl) (oV (zZ rfl GTyp.f6 zjE rfl (z := a_t.more)) (oV (zf ty4 rfl) (zb h fun y2 hy2 h => oT (zA (zek hy2) hT (s3 rfl rfl rfl) k2 (oA rfl ?_))))))))
  refine rnf (zK (zB ?_))
  cases h
  exact zo (.tmp rfl .nil) k2 ⟨rfl, rfl⟩
 refine wkf (wsr (oV (zf ty54 rfl) (zb h fun y3 hy3 h => oT (zA (zig hy3) hT (s1 rfl) .nil (oA rfl (rnf (zj (wsr ?_))))))))
 refine oA rfl (rnf (zt (zaQ (ι := Int × GMk) (γ := Unit) (fun q4 g4 => [(6, isv (q4.1))]) (fun q4 g4 => [boxE zH ((q4.2.m, (Vh.mk zah q4.2.l.length), q4.2.e) : (GMod × Vh × Int)), vecE zah (q4.2.l : List GTyp)]) h () (za (j := 6) rfl hI zd) k2 (fun L5 q4 g4 Q66 h hL5 eL5 rL5 => zj (wsr (oM rfl (oV (zZ rfl GTyp.f4 zbE rfl (z := a_t.fields)) (oV (zf ty52 rfl) ?_))))))))
 refine oV (zaR (l := a_t.fields) rfl hI sl52) (oV (zai rfl rfl) (rnf (zg h rfl (fun _ h => ?_) (fun _ h => ?_))))
 ·refine wkf (zj (zdx (ι := GMk) (γ := Unit) (fun q36 g36 => []) (fun q36 g36 => [boxE zH ((q36.m, (Vh.mk zah q36.l.length), q36.e) : (GMod × Vh × Int)), vecE zah (q36.l : List GTyp)]) k2 h (fun q36 g36 h => ?_) (fun J37 h hJ37 => ?_)))
  ·exact zh (oM rfl (zz h fun q59 h => oV (zaa rfl rfl q59) (oA rfl (zx (hL5 _ () h _ (ze 9 rfl rfl (za (j := 6) rfl hI zd) k2))))))
  refine zt (zj (wsr (oM rfl (oM rfl (zb h fun y38 hy38 h => oV (zaB (l := y3) rfl hI rfl sl114 hy38) (oV (zf ty4 rfl) (oV (zbt rfl) ?_)))))))
  refine rnf (zg h rfl (fun _ h => ?_) (fun _ h => ?_))
  ·exact zae (zU (zF (hJ37 _ () h _ (ze 5 rfl rfl zd k2))))
  refine wkf (wsr (oM rfl (zz h fun q39 h => oV (zaa rfl rfl q39) (oA rfl (rnf (zj (zt ?_)))))))
  refine zaQ (ι := Int) (γ := Unit) (fun q40 g40 => [(7, isv (q40))]) (fun q40 g40 => []) h () (za (j := 7) rfl hI zd) .nil (fun L41 q40 g40 Q58 h hL41 eL41 rL41 => zj (wsr (oM rfl (oV (zZ rfl GTyp.f4 zbE rfl (z := a_t.fields)) (oV (zf ty52 rfl) (oV (zaR (l := a_t.fields) rfl hI sl52) (oV (zai rfl rfl) (oM rfl ?_))))))))
  refine zaz (jb 43) je .nil h 5 rfl (fun q50 g50 h => ?_) (fun J51 h hJ51 => ?_)
  ·refine rnf (zg h rfl (fun _ h => ?_) (fun _ h => ?_))
   ·refine wkf (zt (zh (oM rfl (zz h fun q54 h => oV (zaa rfl rfl q54) (oA rfl (zx (zi ?_)))))))
    exact hL41 _ () h _ (ze 11 rfl rfl (za (j := 7) rfl hI zd) k2)
   refine zae (zU (eL41 _ _ (zF (zy (wsr (oM rfl (oV (zZ rfl GTyp.f4 zbE rfl (z := a_t.fields)) (oV (zf ty52 rfl) ?_))))))))
   refine oM rfl (oM rfl (zz h fun q55 h => oV (zaa rfl rfl q55) (oV (zZ rfl GTyp.f4 zbE rfl (z := a_t.fields)) (oV (zf ty52 rfl) (oV (zaR (l := a_t.fields) rfl hI sl52) (oV (znG rfl rfl) (zI h fun q56 h => ?_)))))))
   refine oV (zfz (l := a_t.fields) rfl hI sl52 (.inr ⟨_, rfl, rfl⟩) (.inr ⟨_, rfl, rfl⟩) q56.1 q56.2.1 q56.2.2) (zb h fun y57 hy57 h => oT (zA (zek hy57) hT (s3 rfl rfl rfl) k2 (oV (zbt rfl) (rnf (zg h rfl (fun _ h => ?_) (fun _ h => ?_))))))
   ·refine wsr (oA rfl (rnf (zK (zG (zB (rL5 _ (zG (zB ?_))))))))
    cases h
    exact zo (.tmp rfl .nil) k2 ⟨rfl, rfl⟩
   exact zab (zi (hJ37 _ () h _ (ze 29 rfl rfl zd k2)))
  refine zC (j := 38) h rfl (fun g52 h => ?_) (fun g52 h => ?_)
  ·exact oK 38 rfl rfl rfl g52 (zq rfl) (oK 38 rfl rfl rfl g52 (zq rfl) (zb h fun y53 hy53 h => oK 38 rfl rfl rfl g52 (zaB (l := y3) rfl hI rfl sl114 hy53) (oK 38 rfl rfl rfl g52 (zf ty4 rfl) (oV (zs rfl g52 rfl) (hJ51 _ () h _ (ze 5 rfl rfl (za (j := 43) rfl hI zd) k2))))))
  exact oP 38 rfl rfl g52 (oP 38 rfl rfl g52 (oP 38 rfl rfl g52 (oP 38 rfl rfl g52 (oV (zr rfl g52 rfl) (hJ51 _ () h _ (ze 5 rfl rfl (za (j := 43) rfl hI zd) k2))))))
 refine zae (zU (eL5 _ _ (zF (zy (zj (zS (.v 0 (.v 1 (.v 2 (.v 3 (.v 4 (.v 5 (.v 6 (.v 7 (.t 8 (.v 9 (.t 10 (.v 11 (.v 12 .nil))))))))))))) moOrd (by kernel_rfl) ?_))))))
 refine zp rfl (zZ rfl GTyp.f6 zjE rfl (z := a_t.more)) (zp rfl (zf ty4 rfl) (zp rfl (zbt rfl) (rvm rfl rfl (zcV (ι := Bool × GMk) (γ := Unit) (fun q60 g60 => [(70, isv (q60.1))]) (fun q60 g60 => [boxE zH ((q60.2.m, (Vh.mk zah q60.2.l.length), q60.2.e) : (GMod × Vh × Int)), vecE zah (q60.2.l : List GTyp)]) k2 h 8 rfl (fun q60 g60 h => ?_) (fun J61 h hJ61 => ?_)))))
 ·refine zp rfl (zaX rfl) (zac (zy (zK ?_)))
  cases h
  exact zo (.tmp rfl .nil) k2 ⟨rfl, rfl⟩
 refine zav (j := 62) h rfl (fun g62 h => ?_) (fun g62 h => ?_)
 ·exact rpv 62 rfl rfl rfl g62 (rpv 62 rfl rfl rfl g62 (rpv 62 rfl rfl rfl g62 (rpv 62 rfl rfl rfl g62 (zb6 rfl rfl (dj := 62) rfl g62 (rpv 62 rfl rfl rfl g62 (zb6 rfl rfl (dj := 62) rfl g62 (zp rfl (zs rfl g62 rfl) (hJ61 _ () h _ (ze 8 rfl rfl (za (j := 70) rfl hI zd) k2)))))))))
 refine rvt 62 rfl rfl rfl g62 (zq rfl) (rvt 62 rfl rfl rfl g62 (zZ rfl GTyp.f4 zbE rfl (z := a_t.fields)) (rvt 62 rfl rfl rfl g62 (zf ty52 rfl) (rvt 62 rfl rfl rfl g62 (zf ty54 rfl) (zb h fun y63 hy63 h => zeP rfl rfl rfl (dj := 62) rfl g62 (zA (zlf hy63) hT (s1 rfl) .nil (zI h fun q64 h => rvt 62 rfl rfl rfl g62 (zfz (l := a_t.fields) rfl hI sl52 (.inr ⟨_, rfl, rfl⟩) (.inl ⟨rfl, rfl⟩) q64.1 q64.2.1 q64.2.2) (zb h fun y65 hy65 h => ?_)))))))
 exact zeP rfl rfl rfl (dj := 62) rfl g62 (zA (zek hy65) hT (s3 rfl rfl rfl) k2 (zp rfl (zr rfl g62 rfl) (hJ61 _ () h _ (ze 8 rfl rfl (za (j := 70) rfl hI zd) k2))))


def zcW (f' : GMk → Int → GNode → Int → Option (GMk)) : Prop :=
 ∀ {a_x : GMk} {a_i : Int} {a_n_ : GNode} {zX : Int} {zH : Nat} {zah : Vt} {r : GMk}, f' a_x a_i a_n_ zX = some r → Ctr Tryd.prog 104 [ptrv zH (Fld.id (GMod × Vh × Int)), isv (a_i), isv (a_n_), isv (zX)] [boxE zH ((a_x.m, (Vh.mk zah a_x.l.length), a_x.e) : (GMod × Vh × Int)), vecE zah (a_x.l : List GTyp)] (fun R H => ∃ u1 : Vt, R = oneOf [] ∧ H = [boxE zH ((r.m, (Vh.mk u1 r.l.length), r.e)), vecE u1 (r.l)])
def zcR (f' : GMk → Int → Int → Option (Int × GMk)) : Prop :=
 ∀ {a_x : GMk} {a_k : Int} {zX : Int} {zH : Nat} {zah : Vt} {r : Int × GMk}, f' a_x a_k zX = some r → Ctr Tryd.prog 60 [ptrv zH (Fld.id (GMod × Vh × Int)), isv (a_k), isv (zX)] [boxE zH ((a_x.m, (Vh.mk zah a_x.l.length), a_x.e) : (GMod × Vh × Int)), vecE zah (a_x.l : List GTyp)] (fun R H => ∃ u1 : Vt, R = oneOf [isv (r.1)] ∧ H = [boxE zH ((r.2.m, (Vh.mk u1 r.2.l.length), r.2.e)), vecE u1 (r.2.l)])
def zdu (f' : GMk → GNode → Int → Option (Int × GMk)) : Prop :=
 ∀ {a_x : GMk} {a_n_ : GNode} {zX : Int} {zH : Nat} {zah : Vt} {r : Int × GMk}, f' a_x a_n_ zX = some r → Ctr Tryd.prog 90 [ptrv zH (Fld.id (GMod × Vh × Int)), isv (a_n_), isv (zX)] [boxE zH ((a_x.m, (Vh.mk zah a_x.l.length), a_x.e) : (GMod × Vh × Int)), vecE zah (a_x.l : List GTyp)] (fun R H => ∃ u1 : Vt, R = oneOf [isv (r.1)] ∧ H = [boxE zH ((r.2.m, (Vh.mk u1 r.2.l.length), r.2.e)), vecE u1 (r.2.l)])
theorem zg8 {zaI : GMk → Int → GNode → Int → Option (GMk)} {zaJ : GMk → Int → Int → Option (Int × GMk)} {zaT : GMk → GNode → Int → Option (Int × GMk)} (zdI : zcW zaI) (zbJ : zcR zaJ) (zen : zdu zaT) : ∀ {a_x : GMk} {a_i : Int} {a_n_ : GNode} {zX : Int} {zH : Nat} {zah : Vt} {r : GMk}, zce zaI zaJ zaT a_x a_i a_n_ zX = some r → Ctr Tryd.prog 104 [ptrv zH (Fld.id (GMod × Vh × Int)), isv (a_i), isv (a_n_), isv (zX)] [boxE zH ((a_x.m, (Vh.mk zah a_x.l.length), a_x.e) : (GMod × Vh × Int)), vecE zah (a_x.l : List GTyp)] (fun R H => ∃ u1 : Vt, R = oneOf [] ∧ H = [boxE zH ((r.m, (Vh.mk u1 r.l.length), r.e)), vecE u1 (r.l)]) := by
 intro a_x a_i a_n_ zX zH zah r h
 unfold zce at h
 refine zu Tryd.func104 rfl fun w0 S0 hT => wsr (oT (zbd (y := a_n_) rfl hI (rnf (wsr (oM rfl (oV (zw rfl) (oV (zaj rfl zei zgi) (oV (zaj rfl GMod.f1 zkd) ?_))))))))
 refine oT (zL (R := isv (a_x.m.tagging)) ty3 rfl .here hI (oV (zbP rfl rfl) (oA rfl (rnf (zj (wsr (oA rfl (rnf (zt ?_)))))))))
 refine zaQ (ι := Bool × Int) (γ := Unit) (fun q2 g2 => [(0, ptrv zH (Fld.id (GMod × Vh × Int))), (8, isv (q2.1)), (9, isv (q2.2))]) (fun q2 g2 => []) h () (za (j := 0) rfl hI (za (j := 8) rfl hI (za (j := 9) rfl hI zd))) .nil (fun L3 q2 g2 Q336 h hL3 eL3 rL3 => zj (wsr (oM rfl (oV (zZ rfl GNode.f5 zdq rfl (z := a_n_.fields)) (oV (zf ty52 rfl) (oV (zaR (l := a_n_.fields) rfl hI sl52) (oV (zai rfl rfl) (rnf ?_))))))))
 refine zg h rfl (fun _ h => ?_) (fun _ h => ?_)
 ·refine wkf (zj (zt (wsr (oV (zZ rfl GNode.f5 zdq rfl (z := a_n_.fields)) (oV (zf ty52 rfl) (oM rfl (zb h fun y170 hy170 h => oV (zaB (l := a_n_.fields) rfl hI rfl sl52 hy170) ?_)))))))
  refine oV (zf ty65 rfl) (oT (zag _ ze65 fun b171 => oT (zk (y' := (y170 : GFld)) ty65 rfl rfl hI .here rfl (zQ (zas 10 .here rfl) (rnf (zc7 0 .here rfl (fun o172 hn173 => zS (.v 0 (.v 1 (.v 2 (.v 3 (.v 4 (.v 5 (.v 6 (.v 7 (.v 8 (.v 9 (.v 10 (.v 11 (.v 12 (.v 13 (.v 14 .nil))))))))))))))) moOrd (by kernel_rfl) ?_)))))))
  refine rvm rfl rfl (rvm rfl rfl (zcV (jb 46) je .nil h 12 rfl (fun q174 g174 h => ?_) (fun J175 h hJ175 => ?_)))
  ·refine zp rfl (zaX rfl) (zac (zaP 0 hn173 rfl (zi (zy (zh (oM rfl (zz h fun q178 h => oV (zaa rfl rfl q178) ?_)))))))
   exact oA rfl (zx (hL3 _ () h _ (ze 24 rfl rfl (za (j := 0) rfl hI (za (j := 8) rfl hI (za (j := 9) rfl hI zd))) k2)))
  refine zav (j := 34) h rfl (fun g176 h => ?_) (fun g176 h => ?_)
  ·refine rpv 34 rfl rfl rfl g176 (rpv 34 rfl rfl rfl g176 (rpv 34 rfl rfl rfl g176 (rpv 34 rfl rfl rfl g176 (rpv 34 rfl rfl rfl g176 (rpv 34 rfl rfl rfl g176 (rpv 34 rfl rfl rfl g176 (rpv 34 rfl rfl rfl g176 (rpv 34 rfl rfl rfl g176 ?_))))))))
   exact rpv 34 rfl rfl rfl g176 (rpv 34 rfl rfl rfl g176 (zp rfl (zs rfl g176 rfl) (hJ175 _ () h _ (jk 12 46 rfl rfl rfl))))
  refine rvt 34 rfl rfl rfl g176 (zq rfl) (rvt 34 rfl rfl rfl g176 (zbr rfl) (rvt 34 rfl rfl rfl g176 (zf2 rfl zei zgi) (rvt 34 rfl rfl rfl g176 (zf2 rfl GMod.f4 zf6) (rvt 34 rfl rfl rfl g176 (zdh (R := isv (a_x.m.nodes)) ty28 rfl (List.Mem.head _) hI) (rvt 34 rfl rfl rfl g176 (zZ rfl GFld.f1 zc6 rfl (z := y170.ty)) (rvt 34 rfl rfl rfl g176 (zf ty3 rfl) (zb h fun y177 hy177 h => rvt 34 rfl rfl rfl g176 (zaB (l := a_x.m.nodes) rfl hI rfl sl28 hy177) ?_)))))))
  exact rvt 34 rfl rfl rfl g176 (zZ rfl GNode.f2 zfn rfl (z := y177.mark)) (rvt 34 rfl rfl rfl g176 (zZ rfl GMark.f0 zjM rfl (z := y177.mark.has)) (rvt 34 rfl rfl rfl g176 (zf ty4 rfl) (zp rfl (zr rfl g176 rfl) (hJ175 _ () h _ (jk 12 46 rfl rfl rfl)))))
 refine zae (zU (eL3 _ _ (zF (zy (zj (wsr (oV (zZ rfl GNode.f0 zbG rfl (z := a_n_.kind)) (oV (zf ty3 rfl) ?_))))))))
 refine oV (zao rfl rfl) (oM rfl (zaz (jb 55) je .nil h 5 rfl (fun q179 g179 h => ?_) (fun J180 h hJ180 => ?_)))
 ·refine oM rfl (zaz (jb 60) je .nil h 4 rfl (fun q182 g182 h => ?_) (fun J183 h hJ183 => ?_))
  ·refine rnf (zdx (ι := GMk) (γ := Unit) (fun q185 g185 => []) (fun q185 g185 => [boxE zH ((q185.m, (Vh.mk zah q185.l.length), q185.e) : (GMod × Vh × Int)), vecE zah (q185.l : List GTyp)]) k2 h (fun q185 g185 h => ?_) (fun J186 h hJ186 => ?_))
   ·refine wsr (oA rfl (rnf (zj (wsr (oA rfl (rnf (zt (zgq (za1) ?_))))))))
    refine zaQ (ι := (List GFld) × Int × GMk) (γ := Tok × Vt) (fun q188 g188 => [(11, appv g188.1 (q188.1)), (12, isv (q188.2.1))]) (fun q188 g188 => [tokE g188.1, boxE zH ((q188.2.2.m, (Vh.mk g188.2 q188.2.2.l.length), q188.2.2.e) : (GMod × Vh × Int)), vecE g188.2 (q188.2.2.l : List GTyp)]) h (none, zah) (za (j := 11) rfl zbA (za (j := 12) rfl hI zd)) k3 (fun L189 q188 g188 Q335 h hL189 eL189 rL189 => zj (wsr (oM rfl (oV (zZ rfl GNode.f5 zdq rfl (z := a_n_.fields)) (oV (zf ty52 rfl) (oV (zaR (l := a_n_.fields) rfl hI sl52) (oV (zai rfl rfl) (oM rfl ?_))))))))
    refine zaz (jb 74) je .nil h 6 rfl (fun q262 g262 h => ?_) (fun J263 h hJ263 => ?_)
    ·refine rnf (zg h rfl (fun _ h => ?_) (fun _ h => ?_))
     ·refine wkf (zj (zt (wsr (oV (zZ rfl GNode.f5 zdq rfl (z := a_n_.fields)) (oV (zf ty52 rfl) (oM rfl (zb h fun y265 hy265 h => oV (zaB (l := a_n_.fields) rfl hI rfl sl52 hy265) ?_)))))))
      refine oV (zf ty65 rfl) (oT (zag _ ze65 fun b266 => oT (zk (y' := (y265 : GFld)) ty65 rfl rfl hI .here rfl (rnf (zj (wsr (oA rfl (rnf (zt ?_)))))))))
      refine zaQ (ι := Int × GMk) (γ := Unit) (fun q267 g267 => [(13, ptrv b266 (Fld.id GFld)), (14, isv (q267.1))]) (fun q267 g267 => [boxE zH ((q267.2.m, (Vh.mk g188.2 q267.2.l.length), q267.2.e) : (GMod × Vh × Int)), vecE g188.2 (q267.2.l : List GTyp)]) h () (za (j := 13) rfl hI (za (j := 14) rfl hI zd)) (.cons tI (.cons tI .nil)) (fun L268 q267 g267 Q327 h hL268 eL268 rL268 => zj (wsr (oM rfl (oM rfl (oV (zai rfl rfl) (rnf (zg h rfl (fun _ h => ?_) (fun _ h => ?_))))))))
      ·refine wkf (zj (zdx (ι := GMk) (γ := Unit) (fun q298 g298 => [(13, ptrv b266 (Fld.id GFld))]) (fun q298 g298 => [boxE zH ((q298.m, (Vh.mk g188.2 q298.l.length), q298.e) : (GMod × Vh × Int)), vecE g188.2 (q298.l : List GTyp)]) k2 h (fun q298 g298 h => ?_) (fun J299 h hJ299 => ?_)))
       ·exact zh (oM rfl (zz h fun q304 h => oV (zaa rfl rfl q304) (oA rfl (zx (hL268 _ () h _ (ze 9 rfl rfl (za (j := 13) rfl hI (za (j := 14) rfl hI zd)) k4))))))
       refine zt (zj (zc7 13 tI rfl (fun o300 hn301 => zS (.v 0 (.v 1 (.v 2 (.v 3 (.v 4 (.v 5 (.v 6 (.v 7 (.v 8 .nil))))))))) moOrd (by kernel_rfl) ?_)))
       refine zp rfl (zZ rfl GNode.f5 zdq rfl (z := a_n_.fields)) (zp rfl (zf ty52 rfl) (rvm rfl rfl (zb h fun y302 hy302 h => zp rfl (zaB (l := a_n_.fields) rfl hI rfl sl52 hy302) (zp rfl (zZ rfl GFld.f0 zlX rfl (z := y302.name)) (zp rfl (zf ty9 rfl) (zp rfl (zf2 rfl GFld.f0 zlX) (zp rfl (zdh (R := isv (y265.name)) ty9 rfl (List.Mem.head _) hI) ?_)))))))
       refine zp rfl (zcE eq9 rfl rfl) (zac (zaP 13 hn301 rfl (zy (zg h rfl (fun _ h => ?_) (fun _ h => ?_)))))
       ·exact zh (oM rfl (zb h fun y303 hy303 h => oT (zA (zbi hy303) hT (s2 rfl rfl) (.cons tH (.cons tH .nil)) (zx (zi (hJ299 _ () h _ (ze 13 rfl rfl (za (j := 13) rfl hI zd) k4)))))))
       exact zab (zi (hJ299 _ () h _ (ze 11 rfl rfl (za (j := 13) rfl hI zd) (.cons tH (.cons tH k2)))))
      refine zae (zU (eL268 _ _ (zF (zy (wsr (oM rfl (oV (zaj rfl GFld.f1 zc6) (oT (zL (R := isv (y265.ty)) ty3 rfl tI hI ?_)))))))))
      refine oM rfl (zz h fun q305 h => oV (zaa rfl rfl q305) (zb h fun y306 hy306 h => oT (zM (zbJ hy306) hT (s3 rfl rfl rfl) k2 (fun R H' hR => ?_))))
      obtain ⟨v307, rfl, rfl⟩ := hR
      refine oV (zaj rfl GFld.f1 zc6) (oT (zk (y' := ({ y265 with ty := y306.1 } : GFld)) ty3 rfl rfl hI tI rfl (rnf (zj (wsr (oM rfl (oV (zw rfl) (oV (zaj rfl zck zdC) (oT (zL (R := isv (y306.2.e)) ty31 rfl tH hI ?_))))))))))
      refine oV (zao rfl rfl) (oM rfl (zaz (jb 113) je .nil h 3 rfl (fun q308 g308 h => ?_) (fun J309 h hJ309 => ?_)))
      ·refine rnf (zdx (ι := GFld × GMk) (γ := Unit) (fun q311 g311 => []) (fun q311 g311 => [boxE b266 (q311.1 : GFld), boxE zH ((q311.2.m, (Vh.mk v307 q311.2.l.length), q311.2.e) : (GMod × Vh × Int)), vecE v307 (q311.2.l : List GTyp)]) k3 h (fun q311 g311 h => ?_) (fun J312 h hJ312 => ?_))
       ·refine zj (wsr (oM rfl (oV (zw rfl) (oV (zaj rfl zck zdC) (oT (zL (R := isv (q311.2.e)) ty31 rfl tH hI (oV (zao rfl rfl) (oM rfl (zaz (jb 129) je .nil h 3 rfl (fun q314 g314 h => ?_) (fun J315 h hJ315 => ?_))))))))))
        ·refine rnf (zdx (ι := GMk) (γ := Unit) (fun q317 g317 => [(13, ptrv b266 (Fld.id GFld))]) (fun q317 g317 => [boxE zH ((q317.m, (Vh.mk v307 q317.l.length), q317.e) : (GMod × Vh × Int)), vecE v307 (q317.l : List GTyp)]) (.cons tH (.cons tH .nil)) h (fun q317 g317 h => ?_) (fun J318 h hJ318 => ?_))
         ·refine zh (oM rfl (oT (zL (R := isv (q311.1)) ty65 rfl tI hI (oT (zad (l := ([q311.1] : (List GFld))) el52 (.cons rfl hI .nil) rfl rfl (zar h fun q325 h => oT (zbs (l := q188.1) (m := ([q311.1] : (List GFld))) zkj rfl hI rfl zO (.there tI) q325 fun t324 => oA rfl (zx (zi ?_)))))))))
          exact zy (zh (oM rfl (zz h fun q326 h => oV (zaa rfl rfl q326) (oA rfl (zx (hL189 _ (t324, v307) h _ (ze 51 rfl rfl (za (j := 11) rfl hI (za (j := 12) rfl hI zd)) k3)))))))
         refine zg h rfl (fun _ h => ?_) (fun _ h => ?_)
         ·refine zc7 13 .here rfl (fun o319 hn320 => zS (.v 0 (.v 1 (.v 2 (.v 3 (.v 4 (.v 5 (.v 6 (.t 7 (.t 8 .nil))))))))) moOrd (by kernel_rfl) ?_)
          refine rvm rfl rfl (zp rfl (zf2 rfl GFld.f1 zc6) (zp rfl (zdh (R := isv (q311.1.ty)) ty3 rfl (List.Mem.head _) hI) (rvm rfl rfl (rvm rfl rfl (zp rfl (zf2 rfl GFld.f1 zc6) (zp rfl (zdh (R := isv (q311.1.ty)) ty3 rfl (List.Mem.head _) hI) (zb h fun y321 hy321 h => zT rfl rfl (zA (zfQ hy321) hT (s2 rfl rfl) k2 ?_))))))))
          exact zb h fun y322 hy322 h => zT rfl rfl (zA (zfW hy322) hT (s4 rfl rfl rfl rfl) k2 (zac (zaP 13 hn320 rfl (hJ318 _ () h _ (ze 11 rfl rfl (za (j := 13) rfl hI zd) (.cons tH (.cons tH k2)))))))
         exact zab (hJ318 _ () h _ (ze 0 rfl rfl (za (j := 13) rfl hI zd) (.cons tH (.cons tH k2))))
        refine zC (j := 126) h rfl (fun g316 h => ?_) (fun g316 h => ?_)
        ·exact oK 126 rfl rfl rfl g316 (zq rfl) (oK 126 rfl rfl rfl g316 (zbt rfl) (oV (zs rfl g316 rfl) (hJ315 _ () h _ (ze 3 rfl rfl (za (j := 129) rfl hI zd) k4))))
        exact oP 126 rfl rfl g316 (oP 126 rfl rfl g316 (oV (zr rfl g316 rfl) (hJ315 _ () h _ (ze 3 rfl rfl (za (j := 129) rfl hI zd) k4))))
       refine zg h rfl (fun _ h => ?_) (fun _ h => ?_)
       ·refine zh (oM rfl (oV (zaj rfl GFld.f1 zc6) (oT (zL (R := isv (y306.1)) ty3 rfl .here hI (oV (zaj rfl GFld.f4 zlB) (oT (zL (R := isv (y265.dflt)) ty63 rfl .here hI (zb h fun y313 hy313 h => oT (zA (zgN hy313) hT (s3 rfl rfl rfl) (.cons tH (.cons tH .nil)) (oV (zaj rfl GFld.f4 zlB) ?_))))))))))
        exact oT (zk (y' := ({ { y265 with ty := y306.1 } with dflt := y313.1 } : GFld)) ty63 rfl rfl hI tI rfl (zx (hJ312 _ () h _ (ze 7 rfl rfl zd k4))))
       exact zab (hJ312 _ () h _ (ze 0 rfl rfl zd k4))
      refine zC (j := 110) h rfl (fun g310 h => ?_) (fun g310 h => ?_)
      ·exact oK 110 rfl rfl rfl g310 (zaj rfl GFld.f3 zlT) (zaF rfl rfl (dj := 110) rfl g310 (zL (R := isv (y265.has)) ty4 rfl .here hI (oV (zs rfl g310 rfl) (hJ309 _ () h _ (ze 3 rfl rfl (za (j := 113) rfl hI zd) k4)))))
      exact oP 110 rfl rfl g310 (oP 110 rfl rfl g310 (oV (zr rfl g310 rfl) (hJ309 _ () h _ (ze 3 rfl rfl (za (j := 113) rfl hI zd) k4))))
     refine zae (zU (eL189 _ _ (zF (zy (wsr (oM rfl (oV (zw rfl) (oV (zaj rfl zck zdC) ?_))))))))
     refine oT (zL (R := isv (q188.2.2.e)) ty31 rfl tH hI (oV (zao rfl rfl) (rnf (zg h rfl (fun _ h => ?_) (fun _ h => ?_)))))
     ·refine wsr (oM rfl (oV (zw rfl) (oV (zaj rfl zbB zcB) (oT (zL (R := vecv g188.2 (q188.2.2.l.length)) ty38 rfl tH isvV1 (oM rfl (oM rfl (zI h fun q328 h => oV (zan (α := GTyp) sl38 rfl rfl q328.1 q328.2) ?_))))))))
      refine oV (zg7 rfl GTyp.f4 zbE) (zb h fun y329 hy329 h => zQ (zY 153 rfl (zO)) (oT (zat ty52 rfl rfl tI hy329 (zQ (zg0 (y := ((q188.2.2.m, (Vh.mk g188.2 (q188.2.2.l.set a_i.toNat ({ y329 with fields := q188.1 })).length), q188.2.2.e) : (GMod × Vh × Int))) tI (fun S => (Cv.pair Cv.id (Cv.pair (Cv.vhe (by first | rfl | simp)) Cv.id)))) ?_))))
      refine rnf (wsr (oM rfl (oM rfl (oV (zw rfl) (oV (zaj rfl zbB zcB) (oT (zL (R := vecv g188.2 ((q188.2.2.l.set a_i.toNat ({ y329 with fields := q188.1 })).length)) ty38 rfl .here isvV1 (oM rfl (zI h fun q330 h => ?_)))))))))
      refine oV (zan (α := GTyp) sl38 rfl rfl q330.1 q330.2) (zb h fun y331 hy331 h => oT (zax ty54 rfl tH hy331 ?_))
      refine zb h fun y332 hy332 h => oT (zA (zhQ hy332) hT (s2 rfl rfl) k2 (oV (zbt rfl) (rnf (zg h rfl (fun _ h => ?_) (fun _ h => ?_)))))
      ·refine zh (oM rfl (zb h fun y333 hy333 h => oT (zA (zbi hy333) hT (s2 rfl rfl) k2 (zx (zam .nil k2 ?_)))))
       cases h
       exact ⟨g188.2, rfl, rfl⟩
      refine zab (zam .nil k2 ?_)
      cases h
      exact ⟨g188.2, rfl, rfl⟩
     refine zab (zam .nil (.cons tH (.cons tH .nil)) ?_)
     cases h
     exact ⟨g188.2, rfl, rfl⟩
    refine zC (j := 68) h rfl (fun g264 h => ?_) (fun g264 h => ?_)
    ·exact oK 68 rfl rfl rfl g264 (zq rfl) (oK 68 rfl rfl rfl g264 (zw rfl) (oK 68 rfl rfl rfl g264 (zaj rfl zck zdC) (zaF rfl rfl (dj := 68) rfl g264 (zL (R := isv (q188.2.2.e)) ty31 rfl tH hI (oK 68 rfl rfl rfl g264 (zao rfl rfl) (oV (zs rfl g264 rfl) (hJ263 _ () h _ (ze 6 rfl rfl (za (j := 74) rfl hI zd) k3))))))))
    exact oP 68 rfl rfl g264 (oP 68 rfl rfl g264 (oP 68 rfl rfl g264 (oP 68 rfl rfl g264 (oP 68 rfl rfl g264 (oV (zr rfl g264 rfl) (hJ263 _ () h _ (ze 6 rfl rfl (za (j := 74) rfl hI zd) k3)))))))
   refine zg h rfl (fun _ h => ?_) (fun _ h => ?_)
   ·exact zh (oM rfl (zb h fun y187 hy187 h => oT (zA (zbi hy187) hT (s2 rfl rfl) k2 (zx (hJ186 _ () h _ (ze 2 rfl rfl zd k2))))))
   exact zab (hJ186 _ () h _ (ze 0 rfl rfl zd k2))
  refine zC (j := 56) h rfl (fun g184 h => ?_) (fun g184 h => ?_)
  ·exact oK 56 rfl rfl rfl g184 (zZ rfl GNode.f7 zeT rfl (z := a_n_.more)) (oK 56 rfl rfl rfl g184 (zf ty4 rfl) (oK 56 rfl rfl rfl g184 (zbt rfl) (oV (zs rfl g184 rfl) (hJ183 _ () h _ (ze 4 rfl rfl (za (j := 60) rfl hI zd) k2)))))
  exact oP 56 rfl rfl g184 (oP 56 rfl rfl g184 (oP 56 rfl rfl g184 (oV (zr rfl g184 rfl) (hJ183 _ () h _ (ze 4 rfl rfl (za (j := 60) rfl hI zd) k2)))))
 refine zC (j := 50) h rfl (fun g181 h => ?_) (fun g181 h => ?_)
 ·exact oK 50 rfl rfl rfl g181 (zZ rfl GNode.f5 zdq rfl (z := a_n_.fields)) (oK 50 rfl rfl rfl g181 (zf ty52 rfl) (oK 50 rfl rfl rfl g181 (zaR (l := a_n_.fields) rfl hI sl52) (oK 50 rfl rfl rfl g181 (zao rfl rfl) (oV (zs rfl g181 rfl) (hJ180 _ () h _ (ze 5 rfl rfl (za (j := 55) rfl hI zd) k2))))))
 exact oP 50 rfl rfl g181 (oP 50 rfl rfl g181 (oP 50 rfl rfl g181 (oP 50 rfl rfl g181 (oV (zr rfl g181 rfl) (hJ180 _ () h _ (ze 5 rfl rfl (za (j := 55) rfl hI zd) k2))))))

theorem zhC {zaI : GMk → Int → GNode → Int → Option (GMk)} {zaJ : GMk → Int → Int → Option (Int × GMk)} {zaT : GMk → GNode → Int → Option (Int × GMk)} (zdI : zcW zaI) (zbJ : zcR zaJ) (zen : zdu zaT) : ∀ {a_x : GMk} {a_k : Int} {zX : Int} {zH : Nat} {zah : Vt} {r : Int × GMk}, zcI zaI zaJ zaT a_x a_k zX = some r → Ctr Tryd.prog 60 [ptrv zH (Fld.id (GMod × Vh × Int)), isv (a_k), isv (zX)] [boxE zH ((a_x.m, (Vh.mk zah a_x.l.length), a_x.e) : (GMod × Vh × Int)), vecE zah (a_x.l : List GTyp)] (fun R H => ∃ u1 : Vt, R = oneOf [isv (r.1)] ∧ H = [boxE zH ((r.2.m, (Vh.mk u1 r.2.l.length), r.2.e)), vecE u1 (r.2.l)]) := by
 intro a_x a_k zX zH zah r h
 unfold zcI at h
 refine zu Tryd.func60 rfl fun w0 S0 hT => wsr (oA rfl (rnf (zj (wsr (oM rfl (oV (zw rfl) (oV (zaj rfl zck zdC) ?_)))))))
 refine oT (zL (R := isv (a_x.e)) ty31 rfl .here hI (oV (zbP rfl rfl) (rnf (zg h rfl (fun _ h => ?_) (fun _ h => ?_)))))
 ·refine wsr (oA rfl (rnf (zK (zB (zo (.tmp rfl .nil) k2 ?_)))))
  cases h
  exact ⟨zah, rfl, rfl⟩
 refine wkf (wsr (oM rfl (oV (zw rfl) (oV (zaj rfl zei zgi) (oV (zaj rfl GMod.f4 zf6) (oT (zL (R := isv (a_x.m.nodes)) ty28 rfl .here hI (oM rfl (zb h fun y2 hy2 h => ?_)))))))))
 refine oV (zaB (l := a_x.m.nodes) rfl hI rfl sl28 hy2) (oV (zf ty108 rfl) (oT (zag _ ze108 fun b3 => oT (zk (y' := (y2 : GNode)) ty108 rfl rfl hI .here rfl (zQ (zas 7 .here rfl) (rnf (wsr (oA rfl (rnf ?_)))))))))
 refine zj (wsr (oV (zZ rfl GNode.f0 zbG rfl (z := y2.kind)) (oV (zf ty3 rfl) (oV (zao rfl rfl) (rnf (zdx (ι := Int × GMk) (γ := Vt) (fun q4 g4 => [(8, isv (q4.1))]) (fun q4 g4 => [boxE zH ((q4.2.m, (Vh.mk g4 q4.2.l.length), q4.2.e) : (GMod × Vh × Int)), vecE g4 (q4.2.l : List GTyp)]) k2 h (fun q4 g4 h => ?_) (fun J5 h hJ5 => ?_)))))))
 ·refine zj (wsr (oM rfl (oV (zw rfl) (oV (zaj rfl zck zdC) (oT (zL (R := isv (q4.2.e)) ty31 rfl .here hI (oV (zao rfl rfl) (oM rfl (zaz (jb 56) je .nil h 4 rfl (fun q14 g14 h => ?_) (fun J15 h hJ15 => ?_))))))))))
  ·refine rnf (zdx (ι := GMk) (γ := Unit) (fun q17 g17 => []) (fun q17 g17 => [boxE zH ((q17.m, (Vh.mk g4 q17.l.length), q17.e) : (GMod × Vh × Int)), vecE g4 (q17.l : List GTyp)]) k2 h (fun q17 g17 h => ?_) (fun J18 h hJ18 => ?_))
   ·refine wsr (oM rfl (oA rfl (rnf (zK (zo (.tmp rfl .nil) k2 ?_)))))
    cases h
    exact ⟨g4, rfl, rfl⟩
   refine zg h rfl (fun _ h => ?_) (fun _ h => ?_)
   ·refine wsr (oA rfl (rnf (zj (zdx (ι := Int × GMk) (γ := Unit) (fun q19 g19 => [(9, isv (q19.1))]) (fun q19 g19 => [boxE zH ((q19.2.m, (Vh.mk g4 q19.2.l.length), q19.2.e) : (GMod × Vh × Int)), vecE g4 (q19.2.l : List GTyp)]) k2 h (fun q19 g19 h => ?_) (fun J20 h hJ20 => ?_)))))
    ·refine zh (oM rfl (oM rfl (oV (zZ rfl GNode.f2 zfn rfl (z := y2.mark)) (oV (zZ rfl GMark.f1 zl3 rfl (z := y2.mark.number)) (oV (zf ty3 rfl) (oM rfl (zb h fun y25 hy25 h => oT (zA (zfW hy25) hT (s4 rfl rfl rfl rfl) k2 ?_))))))))
     exact zx (hJ18 _ () h _ (ze 9 rfl rfl zd k2))
    refine zt (wsr (oV (zZ rfl GNode.f2 zfn rfl (z := y2.mark)) (oV (zZ rfl GMark.f2 zir rfl (z := y2.mark.mode)) (oV (zf ty3 rfl) (oV (zao rfl rfl) (oA rfl (rnf (zg h rfl (fun _ h => ?_) (fun _ h => ?_)))))))))
    ·exact zh (oA rfl (zx (zi (hJ20 _ () h _ (ze 6 rfl rfl (za (j := 9) rfl hI zd) k2)))))
    refine wsr (oV (zZ rfl GNode.f2 zfn rfl (z := y2.mark)) (oV (zZ rfl GMark.f2 zir rfl (z := y2.mark.mode)) (oV (zf ty3 rfl) (oV (zao rfl rfl) (oM rfl (zaz (jb 74) je .nil h 7 rfl (fun q21 g21 h => ?_) (fun J22 h hJ22 => ?_)))))))
    ·refine oA rfl (rnf (zg h rfl (fun _ h => ?_) (fun _ h => ?_)))
     ·exact zh (oM rfl (oM rfl (zb h fun y24 hy24 h => oT (zA (zfQ hy24) hT (s2 rfl rfl) k2 (oA rfl (zx (zi (hJ20 _ () h _ (ze 16 rfl rfl (za (j := 9) rfl hI zd) k2)))))))))
     exact zab (zi (hJ20 _ () h _ (ze 12 rfl rfl (za (j := 9) rfl hI zd) k2)))
    refine zC (j := 67) h rfl (fun g23 h => ?_) (fun g23 h => ?_)
    ·exact oK 67 rfl rfl rfl g23 (zq rfl) (oK 67 rfl rfl rfl g23 (zw rfl) (oK 67 rfl rfl rfl g23 (zaj rfl zei zgi) (oK 67 rfl rfl rfl g23 (zaj rfl GMod.f1 zkd) (zaF rfl rfl (dj := 67) rfl g23 (zL (R := isv (q4.2.m.tagging)) ty3 rfl .here hI (oK 67 rfl rfl rfl g23 (zbP rfl rfl) (oV (zs rfl g23 rfl) (hJ22 _ () h _ (ze 7 rfl rfl (za (j := 74) rfl hI zd) k2)))))))))
    exact oP 67 rfl rfl g23 (oP 67 rfl rfl g23 (oP 67 rfl rfl g23 (oP 67 rfl rfl g23 (oP 67 rfl rfl g23 (oP 67 rfl rfl g23 (oV (zr rfl g23 rfl) (hJ22 _ () h _ (ze 7 rfl rfl (za (j := 74) rfl hI zd) k2))))))))
   exact zab (hJ18 _ () h _ (ze 0 rfl rfl zd k2))
  refine zC (j := 52) h rfl (fun g16 h => ?_) (fun g16 h => ?_)
  ·exact oK 52 rfl rfl rfl g16 (zZ rfl GNode.f2 zfn rfl (z := y2.mark)) (oK 52 rfl rfl rfl g16 (zZ rfl GMark.f0 zjM rfl (z := y2.mark.has)) (oK 52 rfl rfl rfl g16 (zf ty4 rfl) (oV (zs rfl g16 rfl) (hJ15 _ () h _ (ze 4 rfl rfl (za (j := 56) rfl hI zd) k2)))))
  exact oP 52 rfl rfl g16 (oP 52 rfl rfl g16 (oP 52 rfl rfl g16 (oV (zr rfl g16 rfl) (hJ15 _ () h _ (ze 4 rfl rfl (za (j := 56) rfl hI zd) k2)))))
 refine zg h rfl (fun _ h => ?_) (fun _ h => ?_)
 ·refine zS (.v 0 (.v 1 (.v 2 (.v 3 (.v 4 (.v 6 (.v 7 (.v 8 (.v 10 (.v 11 (.v 15 (.alt 5 (.t 9 (.t 12 (.v 13 (.v 14 (.t 16 (.v 17 .nil)))))) (.t 9 (.alt 5 (.t 12 (.v 13 (.v 14 (.t 16 (.v 17 .nil))))) (.t 12 (.t 5 (.v 13 (.v 14 (.t 16 (.v 17 .nil)))))))))))))))))))) moOrd (by kernel_rfl) ?_
  refine rvm rfl rfl (rvm rfl rfl (zp rfl (zw rfl) (zp rfl (zaj rfl zei zgi) (zp rfl (zaj rfl GMod.f3 zi6) (rvm rfl rfl (zp rfl (zw rfl) (zp rfl (zaj rfl zei zgi) (zp rfl (zZ rfl GNode.f1 zjT rfl (z := y2.name)) ?_))))))))
  refine zp rfl (zf ty9 rfl) (rvm rfl rfl (zb h fun y6 hy6 h => zb h fun y7 hy7 h => zb h fun y8 hy8 h => zbw ?_ ?_))
  ·refine zT rfl rfl (zL (R := isv (a_x.m.types)) ty22 rfl .here hI (zT rfl rfl (zL (R := isv (a_x.m)) ty30 rfl .here hI (zT rfl rfl (zA (zf4 hy6) hT (s2 rfl rfl) .nil (zp rfl (zaB (l := a_x.m.types) rfl hI rfl sl22 hy7) (zp rfl (zf ty3 rfl) (zT rfl rfl (zM (zbJ hy8) hT (s3 rfl rfl rfl) k2 (fun R H' hR => ?_))))))))))
   obtain ⟨v9, rfl, rfl⟩ := hR
   exact zp rfl (zaX rfl) (zac (hJ5 _ (v9) h _ (ze 18 rfl rfl (za (j := 8) rfl hI zd) k2)))
  refine zT rfl rfl (zL (R := isv (a_x.m)) ty30 rfl .here hI (zbw ?_ ?_))
  ·refine zT rfl rfl (zL (R := isv (a_x.m.types)) ty22 rfl .here hI (zT rfl rfl (zA (zf4 hy6) hT (s2 rfl rfl) .nil (zp rfl (zaB (l := a_x.m.types) rfl hI rfl sl22 hy7) (zp rfl (zf ty3 rfl) (zT rfl rfl (zM (zbJ hy8) hT (s3 rfl rfl rfl) k2 (fun R H' hR => ?_))))))))
   obtain ⟨v10, rfl, rfl⟩ := hR
   exact zp rfl (zaX rfl) (zac (hJ5 _ (v10) h _ (ze 18 rfl rfl (za (j := 8) rfl hI zd) k2)))
  refine zT rfl rfl (zA (zf4 hy6) hT (s2 rfl rfl) .nil (zT rfl rfl (zL (R := isv (a_x.m.types)) ty22 rfl .here hI (zp rfl (zaB (l := a_x.m.types) rfl hI rfl sl22 hy7) (zp rfl (zf ty3 rfl) (zT rfl rfl (zM (zbJ hy8) hT (s3 rfl rfl rfl) k2 (fun R H' hR => ?_))))))))
  obtain ⟨v11, rfl, rfl⟩ := hR
  exact zp rfl (zaX rfl) (zac (hJ5 _ (v11) h _ (ze 18 rfl rfl (za (j := 8) rfl hI zd) k2)))
 refine zh (oM rfl (oV (zf ty108 rfl) (oM rfl (zb h fun y12 hy12 h => oT (zM (zen hy12) hT (s3 rfl rfl rfl) k2 (fun R H' hR => ?_))))))
 obtain ⟨v13, rfl, rfl⟩ := hR
 exact oA rfl (zx (hJ5 _ (v13) h _ (ze 5 rfl rfl (za (j := 8) rfl hI zd) k2)))

theorem zhR {zaI : GMk → Int → GNode → Int → Option (GMk)} {zaJ : GMk → Int → Int → Option (Int × GMk)} {zaT : GMk → GNode → Int → Option (Int × GMk)} (zdI : zcW zaI) (zbJ : zcR zaJ) (zen : zdu zaT) : ∀ {a_x : GMk} {a_n_ : GNode} {zX : Int} {zH : Nat} {zah : Vt} {r : Int × GMk}, zcL zaI zaJ zaT a_x a_n_ zX = some r → Ctr Tryd.prog 90 [ptrv zH (Fld.id (GMod × Vh × Int)), isv (a_n_), isv (zX)] [boxE zH ((a_x.m, (Vh.mk zah a_x.l.length), a_x.e) : (GMod × Vh × Int)), vecE zah (a_x.l : List GTyp)] (fun R H => ∃ u1 : Vt, R = oneOf [isv (r.1)] ∧ H = [boxE zH ((r.2.m, (Vh.mk u1 r.2.l.length), r.2.e)), vecE u1 (r.2.l)]) := by
 intro a_x a_n_ zX zH zah r h
 unfold zcL at h
 refine zu Tryd.func90 rfl fun w0 S0 hT => wsr (oT (zbd (y := a_n_) rfl hI (oA rfl (rnf (zj (wsr (oM rfl (oV (zbu rfl rfl) ?_))))))))
 refine oM rfl (zaz (jb 20) je .nil h 7 rfl (fun q2 g2 h => ?_) (fun J3 h hJ3 => ?_))
 ·refine rnf (zg h rfl (fun _ h => ?_) (fun _ h => ?_))
  ·refine wsr (oM rfl (zb h fun y5 hy5 h => oT (zA (zbi hy5) hT (s2 rfl rfl) k2 (rnf (wsr (oA rfl (rnf (zK ?_))))))))
   refine zB (zo (.tmp rfl .nil) k2 ?_)
   cases h
   exact ⟨zah, rfl, rfl⟩
  refine wkf (wsr (oM rfl (oV (zw rfl) (oV (zaj rfl zbB zcB) (oT (zL (R := vecv zah (a_x.l.length)) ty38 rfl .here isvV1 (oV (zgv sl38 rfl) (oA rfl (rnf ?_)))))))))
  refine wsr (oV (zZ rfl GNode.f0 zbG rfl (z := a_n_.kind)) (oV (zf ty3 rfl) (oV (zZ rfl GNode.f3 zgT rfl (z := a_n_.con)) (oV (zf ty50 rfl) (oV (zZ rfl GNode.f6 zfp rfl (z := a_n_.root)) (oV (zf ty3 rfl) (oV (zZ rfl GNode.f7 zeT rfl (z := a_n_.more)) (oV (zf ty4 rfl) ?_))))))))
  refine oV (zaE (z := (GTyp.mk a_n_.kind ([] : (List Tag)) a_n_.con ([] : (List GItem)) ([] : (List GFld)) a_n_.root a_n_.more (0 : Int))) rfl bu54 ze54 (.cons GTyp.f0 zet rfl hI (.cons GTyp.f2 zlV rfl hI (.cons GTyp.f5 zeK rfl hI (.cons GTyp.f6 zjE rfl hI .nil))))) (oT (zag _ ze54 fun b6 => oT (zk (y' := ((GTyp.mk a_n_.kind ([] : (List Tag)) a_n_.con ([] : (List GItem)) ([] : (List GFld)) a_n_.root a_n_.more (0 : Int)) : GTyp)) ty54 rfl rfl hI .here rfl (rnf (zj (wsr (oV (zZ rfl GNode.f0 zbG rfl (z := a_n_.kind)) (oV (zf ty3 rfl) (oV (zbP rfl rfl) ?_)))))))))
  refine rnf (zdx (ι := GTyp) (γ := Unit) (fun q7 g7 => []) (fun q7 g7 => [boxE b6 (q7 : GTyp)]) k1 h (fun q7 g7 h => ?_) (fun J8 h hJ8 => ?_))
  ·refine zj (zdx (ι := GMk) (γ := Vt) (fun q11 g11 => [(8, anyv)]) (fun q11 g11 => [boxE zH ((q11.m, (Vh.mk g11 q11.l.length), q11.e) : (GMod × Vh × Int)), vecE g11 (q11.l : List GTyp)]) (.cons tH (.cons tH .nil)) h (fun q11 g11 h => ?_) (fun J12 h hJ12 => ?_))
   ·refine zj (wsr (oV (zZ rfl GNode.f0 zbG rfl (z := a_n_.kind)) (oV (zf ty3 rfl) (rnf (zdx (ι := GMk) (γ := Vt) (fun q20 g20 => []) (fun q20 g20 => [boxE zH ((q20.m, (Vh.mk g20 q20.l.length), q20.e) : (GMod × Vh × Int)), vecE g20 (q20.l : List GTyp)]) k2 h (fun q20 g20 h => ?_) (fun J21 h hJ21 => ?_))))))
    ·refine wsr (oM rfl (oA rfl (rnf (zK (zo (.tmp rfl .nil) k2 ?_)))))
     cases h
     exact ⟨g20, rfl, rfl⟩
    refine zt (zj (wsr (oV (zao rfl rfl) (oA rfl (rnf (zdx (jb 57) je .nil h (fun q22 g22 h => ?_) (fun J23 h hJ23 => ?_)))))))
    ·refine zg h rfl (fun _ h => ?_) (fun _ h => ?_)
     ·refine wsr (oV (zZ rfl GNode.f3 zgT rfl (z := a_n_.con)) (oV (zf ty50 rfl) (oV (zZ rfl GNode.f0 zbG rfl (z := a_n_.kind)) (oV (zf ty3 rfl) (oV (zbP rfl rfl) (zb h fun y24 hy24 h => oT (zA (zkR hy24) hT (s2 rfl rfl) .nil (oA rfl ?_))))))))
      refine rnf (zj (wsr (oM rfl (oV (zbP rfl rfl) (rnf (zdx (ι := GMk) (γ := Unit) (fun q25 g25 => []) (fun q25 g25 => [boxE zH ((q25.m, (Vh.mk g11 q25.l.length), q25.e) : (GMod × Vh × Int)), vecE g11 (q25.l : List GTyp)]) k2 h (fun q25 g25 h => ?_) (fun J26 h hJ26 => ?_)))))))
      ·refine wsr (oV (zZ rfl GNode.f0 zbG rfl (z := a_n_.kind)) (oV (zf ty3 rfl) (oV (zao rfl rfl) (rnf (zg h rfl (fun _ h => ?_) (fun _ h => ?_))))))
       ·refine wsr (oM rfl (oV (zZ rfl GNode.f8 zjL rfl (z := a_n_.of)) (oV (zf ty3 rfl) (oM rfl (zz h fun q28 h => oV (zaa rfl rfl q28) (zb h fun y29 hy29 h => oT (zM (zbJ hy29) hT (s3 rfl rfl rfl) k2 (fun R H' hR => ?_))))))))
        obtain ⟨v30, rfl, rfl⟩ := hR
        refine oA rfl (rnf (wsr (oM rfl (oV (zw rfl) (oV (zaj rfl zck zdC) (oT (zL (R := isv (y29.2.e)) ty31 rfl .here hI (oV (zao rfl rfl) (rnf ?_)))))))))
        refine zg h rfl (fun _ h => ?_) (fun _ h => ?_)
        ·refine zh (oM rfl (oV (zw rfl) (oV (zaj rfl zbB zcB) (oT (zL (R := vecv v30 (y29.2.l.length)) ty38 rfl .here isvV1 (oM rfl (oM rfl (zI h fun q31 h => oV (zan (α := GTyp) sl38 rfl rfl q31.1 q31.2) ?_))))))))
         refine oV (zg7 rfl GTyp.f7 zpt) (zb h fun y32 hy32 h => oT (zat ty3 rfl rfl tH hy32 (zQ (zg0 (y := ((y29.2.m, (Vh.mk v30 (y29.2.l.set (((a_x.l.length : Nat) : Int).toNat) ({ y32 with of := y29.1 })).length), y29.2.e) : (GMod × Vh × Int))) tH (fun S => (Cv.pair Cv.id (Cv.pair (Cv.vhe (by first | rfl | simp)) Cv.id)))) ?_)))
         exact zx (zi (hJ21 _ (v30) h _ (ze 35 rfl rfl zd k3)))
        exact zab (zi (hJ21 _ (v30) h _ (ze 27 rfl rfl zd k3)))
       exact zab (zi (hJ21 _ (g11) h _ (ze 15 rfl rfl zd k3)))
      refine zg h rfl (fun _ h => ?_) (fun _ h => ?_)
      ·exact zh (oM rfl (oM rfl (zb h fun y27 hy27 h => oT (zA (zbi hy27) hT (s2 rfl rfl) k2 (zx (hJ26 _ () h _ (ze 3 rfl rfl zd k3)))))))
      exact zab (hJ26 _ () h _ (ze 0 rfl rfl zd k3))
     refine wsr (oV (zao rfl rfl) (oA rfl (rnf (zg h rfl (fun _ h => ?_) (fun _ h => ?_)))))
     ·refine zS (.v 0 (.v 1 (.v 2 (.v 4 (.v 5 (.v 6 (.alt 3 (.t 7 (.v 8 (.v 9 (.t 10 .nil)))) (.t 7 (.t 3 (.v 8 (.v 9 (.t 10 .nil)))))))))))) moOrd (by kernel_rfl) ?_
      refine rvm rfl rfl (zp rfl (zw rfl) (zp rfl (zaj rfl zbB zcB) (rvm rfl rfl (rvm rfl rfl (zp rfl (zf ty108 rfl) (zb h fun y33 hy33 h => zI h fun q34 h => zI h fun q35 h => ?_))))))
      refine zb h fun y36 hy36 h => zbw ?_ ?_
      ·refine zT rfl rfl (zL (R := vecv g11 (q11.l.length)) ty38 rfl .here isvV1 (zT rfl rfl (zA (zfu hy33) hT (s2 rfl rfl) k2 (zp rfl (zan (α := GTyp) sl38 rfl rfl q35.1 q35.2) (zp rfl (zg7 rfl GTyp.f3 zfc) (zT rfl rfl (zat ty51 rfl rfl tH hy36 (zbj (zg0 (y := ((y33.2.m, (Vh.mk g11 (y33.2.l.set (((a_x.l.length : Nat) : Int).toNat) ({ y36 with items := y33.1 })).length), y33.2.e) : (GMod × Vh × Int))) tH (fun S => (Cv.pair Cv.id (Cv.pair (Cv.vhe (by first | rfl | simp)) Cv.id)))) ?_))))))))
       exact zac (zi (hJ21 _ (g11) h _ (ze 15 rfl rfl zd k3)))
      refine zT rfl rfl (zA (zfu hy33) hT (s2 rfl rfl) k2 (zT rfl rfl (zL (R := vecv g11 (y33.2.l.length)) ty38 rfl .here isvV1 (zp rfl (zan (α := GTyp) sl38 rfl rfl (by omega) (by omega)) ?_))))
      refine zp rfl (zg7 rfl GTyp.f3 zfc) (zT rfl rfl (zat ty51 rfl rfl tH hy36 (zbj (zg0 (y := ((y33.2.m, (Vh.mk g11 (y33.2.l.set (((a_x.l.length : Nat) : Int).toNat) ({ y36 with items := y33.1 })).length), y33.2.e) : (GMod × Vh × Int))) tH (fun S => (Cv.pair Cv.id (Cv.pair (Cv.vhe (by first | rfl | simp)) Cv.id)))) ?_)))
      exact zac (zi (hJ21 _ (g11) h _ (ze 15 rfl rfl zd k3)))
     refine zj (wsr (oV (zao rfl rfl) (oA rfl (rnf (zdx (jb 107) je .nil h (fun q37 g37 h => ?_) (fun J38 h hJ38 => ?_))))))
     ·refine zg h rfl (fun _ h => ?_) (fun _ h => ?_)
      ·refine zh (oM rfl (oM rfl (oV (zf ty108 rfl) (oM rfl (zb h fun y39 hy39 h => oT (zM (zdI hy39) hT (s4 rfl rfl rfl rfl) k2 (fun R H' hR => ?_)))))))
       obtain ⟨v40, rfl, rfl⟩ := hR
       exact zx (zi (hJ21 _ (v40) h _ (ze 13 rfl rfl zd k3)))
      exact zab (zi (hJ21 _ (g11) h _ (ze 8 rfl rfl zd k3)))
     refine zg h rfl (fun _ h => ?_) (fun _ h => ?_)
     ·exact zab (hJ38 _ () h _ (ze 0 rfl rfl (za (j := 107) rfl hI zd) k3))
     refine wsr (oV (zao rfl rfl) (oA rfl (rnf (zg h rfl (fun _ h => ?_) (fun _ h => ?_)))))
     ·exact zab (hJ38 _ () h _ (ze 2 rfl rfl (za (j := 107) rfl hI zd) k3))
     exact zh (oV (zao rfl rfl) (oA rfl (zx (hJ38 _ () h _ (ze 4 rfl rfl (za (j := 107) rfl hI zd) k3)))))
    refine zg h rfl (fun _ h => ?_) (fun _ h => ?_)
    ·exact zab (hJ23 _ () h _ (ze 0 rfl rfl (za (j := 57) rfl hI zd) k3))
    refine wsr (oV (zao rfl rfl) (oA rfl (rnf (zg h rfl (fun _ h => ?_) (fun _ h => ?_)))))
    ·exact zab (hJ23 _ () h _ (ze 2 rfl rfl (za (j := 57) rfl hI zd) k3))
    refine wsr (oV (zao rfl rfl) (oA rfl (rnf (zg h rfl (fun _ h => ?_) (fun _ h => ?_)))))
    ·exact zab (hJ23 _ () h _ (ze 4 rfl rfl (za (j := 57) rfl hI zd) k3))
    exact zh (oV (zao rfl rfl) (oA rfl (zx (hJ23 _ () h _ (ze 6 rfl rfl (za (j := 57) rfl hI zd) k3)))))
   refine zc7 8 .here rfl (fun o13 hn14 => zS (.v 0 (.v 1 (.v 2 (.v 3 (.v 5 (.alt 4 (.t 6 (.t 7 (.v 8 (.v 9 (.t 10 .nil))))) (.t 6 (.t 4 (.t 7 (.v 8 (.v 9 (.t 10 .nil)))))))))))) moOrd (by kernel_rfl) ?_)
   refine rvm rfl rfl (rvm rfl rfl (zp rfl (zw rfl) (zp rfl (zaj rfl zbB zcB) (zp rfl (zdh (R := isv (q7)) ty54 rfl (List.Mem.head _) hI) (zar h fun q17 h => zbw ?_ ?_)))))
   ·refine zT rfl rfl (zL (R := vecv zah (a_x.l.length)) ty38 rfl .here isvV1 (zT rfl rfl (zad (l := ([q7] : (List GTyp))) el38 (.cons rfl hI .nil) rfl rfl (zT rfl rfl (zgc (m := ([q7] : (List GTyp))) zl8 rfl rfl zO tH (by first | rfl | simp) q17 fun v16 => ?_)))))
    exact zp rfl (zw rfl) (zp rfl (zaj rfl zbB zcB) (zT rfl rfl (zk (y' := ((a_x.m, (Vh.mk v16 (a_x.l ++ ([q7] : (List GTyp))).length), a_x.e) : (GMod × Vh × Int))) ty38 rfl rfl isvV2 tH rfl (zac (zaP 8 hn14 rfl (hJ12 _ (v16) h _ (ze 12 rfl rfl (za (j := 8) rfl (fun _ _ _ => trivial) zd) (.cons tH (.cons tH k1)))))))))
   refine zT rfl rfl (zad (l := ([q7] : (List GTyp))) el38 (.cons rfl hI .nil) rfl rfl (zT rfl rfl (zL (R := vecv zah (a_x.l.length)) ty38 rfl .here isvV1 (zT rfl rfl (zgc (m := ([q7] : (List GTyp))) zl8 rfl rfl zO tH (by first | rfl | simp) q17 fun v19 => ?_)))))
   exact zp rfl (zw rfl) (zp rfl (zaj rfl zbB zcB) (zT rfl rfl (zk (y' := ((a_x.m, (Vh.mk v19 (a_x.l ++ ([q7] : (List GTyp))).length), a_x.e) : (GMod × Vh × Int))) ty38 rfl rfl isvV2 tH rfl (zac (zaP 8 hn14 rfl (hJ12 _ (v19) h _ (ze 12 rfl rfl (za (j := 8) rfl (fun _ _ _ => trivial) zd) (.cons tH (.cons tH k1)))))))))
  refine zg h rfl (fun _ h => ?_) (fun _ h => ?_)
  ·refine zh (oV (zZ rfl GNode.f0 zbG rfl (z := a_n_.kind)) (oV (zf ty3 rfl) (zb h fun y9 hy9 h => oT (zA (zip hy9) hT (s1 rfl) .nil (oT (zad (l := ([y9] : (List Tag))) el48 (.cons rfl hI .nil) rfl rfl (oV (zaj rfl GTyp.f1 zeH) (oT (zk (y' := ((GTyp.mk a_n_.kind ([y9] : (List Tag)) a_n_.con ([] : (List GItem)) ([] : (List GFld)) a_n_.root a_n_.more (0 : Int)) : GTyp)) ty48 rfl rfl zO .here rfl (zx ?_))))))))))
   exact hJ8 _ () h _ (ze 5 rfl rfl zd k3)
  exact zab (hJ8 _ () h _ (ze 0 rfl rfl zd k3))
 refine zC (j := 13) h rfl (fun g4 h => ?_) (fun g4 h => ?_)
 ·exact oP 13 rfl rfl g4 (oP 13 rfl rfl g4 (oP 13 rfl rfl g4 (oP 13 rfl rfl g4 (oP 13 rfl rfl g4 (oP 13 rfl rfl g4 (oV (zs rfl g4 rfl) (hJ3 _ () h _ (ze 7 rfl rfl (za (j := 20) rfl hI zd) k2))))))))
 exact oK 13 rfl rfl rfl g4 (zq rfl) (oK 13 rfl rfl rfl g4 (zw rfl) (oK 13 rfl rfl rfl g4 (zaj rfl zbB zcB) (zaF rfl rfl (dj := 13) rfl g4 (zL (R := vecv zah (a_x.l.length)) ty38 rfl .here isvV1 (oK 13 rfl rfl rfl g4 (zgv sl38 rfl) (oK 13 rfl rfl rfl g4 (zed rfl rfl) (oV (zr rfl g4 rfl) (hJ3 _ () h _ (ze 7 rfl rfl (za (j := 20) rfl hI zd) k2)))))))))

theorem zdT : ∀ n, zcW (zdn n) ∧ zcR (zdk n) ∧ zdu (zdd n)
 | 0 => ⟨fun h => (by cases h), fun h => (by cases h), fun h => (by cases h)⟩
 | n + 1 => by
  obtain ⟨h0, h1, h2⟩ := zdT n
  exact ⟨zg8 h0 h1 h2, zhC h0 h1 h2, zhR h0 h1 h2⟩
theorem zfT (n : Nat) : zcR (zdk n) := (zdT n).2.1
theorem zlo : ∀ {a_m : GMod} {r : GTab × Int × Int}, zfX a_m = some r → Ctr Tryd.prog 35 [isv (a_m)] [] (fun R H => R = oneOf [isv (r.1), isv (r.2.1), isv (r.2.2)] ∧ H = []) := by
 intro a_m r h
 unfold zfX at h
 refine zu Tryd.func35 rfl fun w0 S0 hT => wsr (oT (zbd (y := a_m) rfl hI (oT (zag _ ze40 fun b1 => oA rfl (oA rfl (rnf (wsr (oV (zf ty30 rfl) ?_))))))))
 refine zb h fun y2 hy2 h => oT (zA (zkr hy2) hT (s1 rfl) .nil (oM rfl (oV (zaD rfl rfl) (oV (zaD rfl rfl) (oV (zaD rfl rfl) (oA rfl (oA rfl (oA rfl ?_))))))))
 refine rnf (zj (wsr (oM rfl (oV (zbP rfl rfl) (rnf (zg h rfl (fun _ h => ?_) (fun _ h => ?_)))))))
 ·refine wsr (oV (zaE (z := (GTab.mk (Str.mk []) ([] : (List Str)) ([] : (List Int)) ([] : (List GTyp)))) rfl bu40 ze40 .nil) (oM rfl (oM rfl (oT (zk (y' := ((GTab.mk (Str.mk []) ([] : (List Str)) ([] : (List Int)) ([] : (List GTyp))) : GTab)) ty40 rfl rfl hI .here rfl (oA rfl (oA rfl (rnf (zK ?_)))))))))
  refine zB ?_
  cases h
  exact zo (.cell rfl .here ty40 (.tmp rfl (.tmp rfl .nil))) .nil ⟨rfl, rfl⟩
 refine wkf (wsr (oV (zf ty30 rfl) (oV (zaE (z := ((a_m, (Vh.mk none 0), (0 : Int)) : (GMod × Vh × Int))) rfl bu120 zoT (.cons zei zgi rfl hI .nil)) (oT (zka (y := ((a_m, (Vh.mk none 0), (0 : Int)) : (GMod × Vh × Int))) rfl hI fun b3 => zQ (zeS (α := GTyp)) (oA rfl (rnf (zj ?_))))))))
 refine zdx (ι := GTab) (γ := Nat × Tok) (fun q5 g5 => [(9, ptrv g5.1 (Fld.id (Str × (List Str) × (TList Int) × (List GTyp))))]) (fun q5 g5 => [boxE g5.1 ((q5.name, q5.names, (TList.mk g5.2 q5.roots), q5.types) : (Str × (List Str) × (TList Int) × (List GTyp))), tokE g5.2]) .nil h (fun q5 g5 h => ?_) (fun J6 h hJ6 => ?_)
 ·refine zj (wsr (oA rfl (rnf (zt (zaQ (ι := Int × GTab × GMk) (γ := Tok × Vt) (fun q16 g16 => [(10, isv (q16.1))]) (fun q16 g16 => [boxE g5.1 ((q16.2.1.name, q16.2.1.names, (TList.mk g16.1 q16.2.1.roots), q16.2.1.types) : (Str × (List Str) × (TList Int) × (List GTyp))), tokE g16.1, boxE b3 ((q16.2.2.m, (Vh.mk g16.2 q16.2.2.l.length), q16.2.2.e) : (GMod × Vh × Int)), vecE g16.2 (q16.2.2.l : List GTyp)]) h (g5.2, none) (za (j := 10) rfl hI zd) (.cons .here (.cons .here (.cons tH k1))) (fun L17 q16 g16 Q50 h hL17 eL17 rL17 => zj (wsr (oM rfl ?_))))))))
  refine oV (zZ rfl GMod.f2 zdU rfl (z := a_m.names)) (oV (zf ty27 rfl) (oV (zaR (l := a_m.names) rfl hI sl27) (oV (zai rfl rfl) (rnf (zg h rfl (fun _ h => ?_) (fun _ h => ?_))))))
  ·refine wkf (zj (zt (zj (zdx (ι := GTab × GMk) (γ := Tok × Vt) (fun q34 g34 => []) (fun q34 g34 => [boxE g5.1 ((q34.1.name, q34.1.names, (TList.mk g34.1 q34.1.roots), q34.1.types) : (Str × (List Str) × (TList Int) × (List GTyp))), tokE g34.1, boxE b3 ((q34.2.m, (Vh.mk g34.2 q34.2.l.length), q34.2.e) : (GMod × Vh × Int)), vecE g34.2 (q34.2.l : List GTyp)]) (.cons .here (.cons tH k2)) h (fun q34 g34 h => ?_) (fun J35 h hJ35 => ?_)))))
   ·refine wsr (oM rfl (oV (zw rfl) (oV (zaj rfl zck zdC) (oT (zL (R := isv (q34.2.e)) ty31 rfl tI hI (oV (zbP rfl rfl) (rnf (zg h rfl (fun _ h => ?_) (fun _ h => ?_)))))))))
    ·refine zj (zc7 8 tI rfl (fun o47 hn48 => zS (.v 0 (.v 1 (.v 2 (.v 3 (.v 4 (.v 5 (.t 6 (.v 7 (.v 8 .nil))))))))) moOrd (by kernel_rfl) ?_))
     refine zp rfl (zaE (z := (GTab.mk (Str.mk []) ([] : (List Str)) ([] : (List Int)) ([] : (List GTyp)))) rfl bu40 ze40 .nil) (rvm rfl rfl (rvm rfl rfl (zp rfl (zbr rfl) (zp rfl (zf2 rfl zck zdC) (zp rfl (zdh (R := isv (q34.2.e)) ty31 rfl (List.Mem.head _) hI) (zT rfl rfl (zk (y' := ((GTab.mk (Str.mk []) ([] : (List Str)) ([] : (List Int)) ([] : (List GTyp))) : GTab)) ty40 rfl rfl hI (.there tI) rfl (zp rfl (zaX rfl) (zp rfl (zaX rfl) ?_)))))))))
     refine zac (zaP 8 hn48 rfl (zy (zK (zG (zB (rL17 _ (zG (zB ?_))))))))
     cases h
     exact zo (.cell rfl tH ty40 (.tmp rfl (.tmp rfl .nil))) .nil ⟨rfl, rfl⟩
    refine zab (zi (zy (zh (oM rfl (zz h fun q49 h => oV (zaa rfl rfl q49) (oA rfl (zx ?_)))))))
    exact hL17 _ (g34.1, g34.2) h _ (ze 14 rfl rfl (za (j := 10) rfl hI zd) (.cons .here k4))
   refine zS (.v 0 (.v 2 (.v 3 (.v 4 (.v 5 (.v 6 (.v 7 (.alt 1 (.t 8 (.t 9 (.t 10 (.v 11 (.t 12 .nil))))) (.t 8 (.alt 1 (.t 9 (.t 10 (.v 11 (.t 12 .nil)))) (.t 9 (.t 1 (.t 10 (.v 11 (.t 12 .nil))))))))))))))) moOrd (by kernel_rfl) ?_
   refine zp rfl (zaj rfl zhr zkk) (rvm rfl rfl (zp rfl (zZ rfl GMod.f3 zi6 rfl (z := a_m.types)) (zp rfl (zf ty22 rfl) (rvm rfl rfl (zb h fun y36 hy36 h => zp rfl (zaB (l := a_m.types) rfl hI rfl sl22 hy36) (zp rfl (zf ty3 rfl) (zb h fun y37 hy37 h => ?_)))))))
   refine zar h fun q41 h => zbw ?_ ?_
   ·refine zT rfl rfl (zL (R := appv g16.1 (q16.2.1.roots)) ty22 rfl .here isvT1 (zT rfl rfl (zM (zfT fuel hy37) hT (s3 rfl rfl rfl) (.cons tI (.cons tI .nil)) (fun R H' hR => ?_))))
    obtain ⟨v38, rfl, rfl⟩ := hR
    exact zT rfl rfl (zad (l := ([y37.1] : (List Int))) el22 (.cons rfl hI .nil) rfl rfl (zT rfl rfl (zbs (l := q16.2.1.roots) (m := ([y37.1] : (List Int))) zdo rfl hI rfl zO (.there tI) q41 fun t40 => zp rfl (zaj rfl zhr zkk) (zT rfl rfl (zk (y' := ((q16.2.1.name, q16.2.1.names, (TList.mk t40 (q16.2.1.roots ++ ([y37.1] : (List Int)))), q16.2.1.types) : (Str × (List Str) × (TList Int) × (List GTyp)))) ty22 rfl rfl isvT2 (.there tI) rfl (zac (hJ35 _ (t40, v38) h _ (ze 12 rfl rfl zd (.cons .here k4)))))))))
   refine zT rfl rfl (zM (zfT fuel hy37) hT (s3 rfl rfl rfl) (.cons tI (.cons tI .nil)) (fun R H' hR => ?_))
   obtain ⟨v42, rfl, rfl⟩ := hR
   refine zbw ?_ ?_
   ·exact zT rfl rfl (zL (R := appv g16.1 (q16.2.1.roots)) ty22 rfl tI isvT1 (zT rfl rfl (zad (l := ([y37.1] : (List Int))) el22 (.cons rfl hI .nil) rfl rfl (zT rfl rfl (zbs (l := q16.2.1.roots) (m := ([y37.1] : (List Int))) zdo rfl hI rfl zO (.there tI) q41 fun t44 => zp rfl (zaj rfl zhr zkk) (zT rfl rfl (zk (y' := ((q16.2.1.name, q16.2.1.names, (TList.mk t44 (q16.2.1.roots ++ ([y37.1] : (List Int)))), q16.2.1.types) : (Str × (List Str) × (TList Int) × (List GTyp)))) ty22 rfl rfl isvT2 (.there tI) rfl (zac (hJ35 _ (t44, v42) h _ (ze 12 rfl rfl zd (.cons .here k4)))))))))))
   exact zT rfl rfl (zad (l := ([y37.1] : (List Int))) el22 (.cons rfl hI .nil) rfl rfl (zT rfl rfl (zL (R := appv g16.1 (q16.2.1.roots)) ty22 rfl tI isvT1 (zT rfl rfl (zbs (l := q16.2.1.roots) (m := ([y37.1] : (List Int))) zdo rfl hI rfl zO (.there tI) q41 fun t46 => zp rfl (zaj rfl zhr zkk) (zT rfl rfl (zk (y' := ((q16.2.1.name, q16.2.1.names, (TList.mk t46 (q16.2.1.roots ++ ([y37.1] : (List Int)))), q16.2.1.types) : (Str × (List Str) × (TList Int) × (List GTyp)))) ty22 rfl rfl isvT2 (.there tI) rfl (zac (hJ35 _ (t46, v42) h _ (ze 12 rfl rfl zd (.cons .here k4)))))))))))
  refine zae (zU (eL17 _ _ (zF (zy (wsr (oM rfl (oV (zw rfl) (oV (zaj rfl zbB zcB) ?_))))))))
  refine oT (zL (R := vecv g16.2 (q16.2.2.l.length)) ty38 rfl tI isvV1 (oV (zaj rfl znZ zf5) (zQ (zeF 64 (.there tI) rfl (by first | rfl | simp)) ?_)))
  refine oT (zk (y' := ((q16.2.1.name, q16.2.1.names, (TList.mk g16.1 q16.2.1.roots), q16.2.2.l) : (Str × (List Str) × (TList Int) × (List GTyp)))) ty38 rfl rfl hI .here rfl (rnf (wsr (oT (zL (y := ((q16.2.1.name, q16.2.1.names, (TList.mk g16.1 q16.2.1.roots), q16.2.2.l) : (Str × (List Str) × (TList Int) × (List GTyp)))) (R := isv (((q16.2.1.name, q16.2.1.names, (TList.mk g16.1 q16.2.1.roots), q16.2.2.l)) : ((Str × (List Str) × (TList Int) × (List GTyp))))) ty40 rfl .here (by exact hI) ?_)))))
  refine zQ (zY (R' := isv ((GTab.mk q16.2.1.name q16.2.1.names q16.2.1.roots q16.2.2.l))) 66 rfl (Cv.isv rfl fun S => (fun cs h => GTab.cv (x := (GTab.mk q16.2.1.name q16.2.1.names q16.2.1.roots q16.2.2.l)) cs (((Cv.pair Cv.id (Cv.pair Cv.id (Cv.pair Cv.tl Cv.id))) : Cv S ((q16.2.1.name, q16.2.1.names, (TList.mk g16.1 q16.2.1.roots), q16.2.2.l) : (Str × (List Str) × (TList Int) × (List GTyp))) (GTab.to (GTab.mk q16.2.1.name q16.2.1.names q16.2.1.roots q16.2.2.l))) cs h)))) (oT (zk (y' := ((GTab.mk q16.2.1.name q16.2.1.names q16.2.1.roots q16.2.2.l) : GTab)) ty40 rfl rfl hI (.there tI) rfl (oA rfl (oA rfl (rnf (zK ?_))))))
  cases h
  exact zo (.cell rfl .here ty40 (.tmp rfl (.tmp rfl .nil))) .nil ⟨rfl, rfl⟩
 refine zS (.v 0 (.v 1 (.v 2 (.v 3 (.alt 4 (.v 5 (.t 6 (.t 7 .nil))) (.t 6 (.t 4 (.v 5 (.t 7 .nil))))))))) moOrd (by kernel_rfl) ?_
 refine zp rfl (zZ rfl GMod.f0 zoj rfl (z := a_m.name)) (zp rfl (zf ty9 rfl) (zp rfl (zZ rfl GMod.f2 zdU rfl (z := a_m.names)) (zp rfl (zf ty27 rfl) (zar h fun q8 h => zbw ?_ ?_))))
 ·exact zT rfl rfl (zj5 (m := a_m.names) zjP rfl rfl hI q8 fun t7 => zp rfl (zaE (z := ((a_m.name, (([] : (List Str)) ++ a_m.names), (TList.mk none ([] : (List Int))), ([] : (List GTyp))) : (Str × (List Str) × (TList Int) × (List GTyp)))) rfl bu40 zkn (.cons zku zn8 rfl hI (.cons zkL zn1 rfl zO .nil))) (zT rfl rfl (zag _ zkn fun b9 => zbj (za1) (zbj (za1) (zT rfl rfl (zk (y' := ((a_m.name, (([] : (List Str)) ++ a_m.names), (TList.mk none ([] : (List Int))), ([] : (List GTyp))) : (Str × (List Str) × (TList Int) × (List GTyp)))) ty40 rfl rfl hI tI rfl (zac (hJ6 _ (b9, none) h _ (ze 7 rfl rfl (za (j := 9) rfl hI zd) (.cons .here (.cons .here (.cons tI (.cons tI (.cons tI .nil))))))))))))))
 exact zT rfl rfl (zag _ zkn fun b12 => zbj (za1) (zT rfl rfl (zj5 (m := a_m.names) zjP rfl rfl hI q8 fun t14 => zp rfl (zaE (z := ((a_m.name, (([] : (List Str)) ++ a_m.names), (TList.mk none ([] : (List Int))), ([] : (List GTyp))) : (Str × (List Str) × (TList Int) × (List GTyp)))) rfl bu40 zkn (.cons zku zn8 rfl hI (.cons zkL zn1 rfl zO .nil))) (zbj (za1) (zT rfl rfl (zk (y' := ((a_m.name, (([] : (List Str)) ++ a_m.names), (TList.mk none ([] : (List Int))), ([] : (List GTyp))) : (Str × (List Str) × (TList Int) × (List GTyp)))) ty40 rfl rfl hI (.there tI) rfl (zac (hJ6 _ (b12, none) h _ (ze 7 rfl rfl (za (j := 9) rfl hI zd) (.cons .here (.cons .here (.cons tI (.cons tI (.cons tI .nil))))))))))))))


theorem zfw : ∀ {za0 : Str} {r : GTab × Bool}, zbD za0 = some r → Ctr Tryd.prog 13 [isv (za0)] [] (fun R H => R = oneOf [isv (r.1), isv (r.2)] ∧ H = []) := by
 intro za0 r h
 unfold zbD at h
 refine zu Tryd.func13 rfl fun w0 S0 hT => wsr (oT (zag _ ze40 fun b1 => oA rfl (rnf (zj (wsr (oM rfl (oV (zdH st9 rfl) ?_)))))))
 refine oV (zbu rfl rfl) (rnf (zg h rfl (fun _ h => ?_) (fun _ h => ?_)))
 ·refine wsr (oV (zaE (z := (GTab.mk (Str.mk []) ([] : (List Str)) ([] : (List Int)) ([] : (List GTyp)))) rfl bu40 ze40 .nil) (oT (zk (y' := ((GTab.mk (Str.mk []) ([] : (List Str)) ([] : (List Int)) ([] : (List GTyp))) : GTab)) ty40 rfl rfl hI .here rfl (oA rfl (rnf (zK (zB ?_)))))))
  cases h
  exact zo (.cell rfl .here ty40 (.tmp rfl .nil)) .nil ⟨rfl, rfl⟩
 refine wkf (wsr (oM rfl (zb h fun y2 hy2 h => oT (zA (zk0 hy2) hT (s1 rfl) .nil (oM rfl (oV (zaD rfl rfl) (oV (zaD rfl rfl) (oV (zaD rfl rfl) ?_))))))))
 refine oT (zag _ ze30 fun b3 => oT (zk (y' := (y2.1 : GMod)) ty30 rfl rfl hI .here rfl (zQ (zas 4 .here rfl) (oA rfl (oA rfl (rnf (zj (wsr (oM rfl ?_)))))))))
 refine oV (zbP rfl rfl) (rnf (zg h rfl (fun _ h => ?_) (fun _ h => ?_)))
 ·refine wsr (oV (zaE (z := (GTab.mk (Str.mk []) ([] : (List Str)) ([] : (List Int)) ([] : (List GTyp)))) rfl bu40 ze40 .nil) (oT (zk (y' := ((GTab.mk (Str.mk []) ([] : (List Str)) ([] : (List Int)) ([] : (List GTyp))) : GTab)) ty40 rfl rfl hI .here rfl (oA rfl (rnf (zK (zB ?_)))))))
  cases h
  exact zo (.cell rfl .here ty40 (.tmp rfl .nil)) .nil ⟨rfl, rfl⟩
 refine wkf (wsr (oV (zf ty30 rfl) (zb h fun y4 hy4 h => oT (zA (zlo hy4) hT (s1 rfl) .nil (oM rfl (oV (zaD rfl rfl) (oV (zaD rfl rfl) (oV (zaD rfl rfl) ?_))))))))
 refine oT (zag _ ze40 fun b5 => oT (zk (y' := (y4.1 : GTab)) ty40 rfl rfl hI .here rfl (zQ (zas 7 .here rfl) (oA rfl (oA rfl (rnf (zj (zS (.v 0 (.v 1 (.v 2 (.v 3 (.v 4 (.v 5 (.v 6 (.v 7 (.v 8 (.t 9 (.v 10 .nil))))))))))) moOrd (by kernel_rfl) ?_))))))))
 refine zp rfl (zf ty40 rfl) (rvm rfl rfl (zp rfl (zao rfl rfl) (rvm rfl rfl (zcV (jb 37) je .nil h 5 rfl (fun q6 g6 h => ?_) (fun J7 h hJ7 => ?_)))))
 ·refine zT rfl rfl (zk (y' := (y4.1 : GTab)) ty40 rfl rfl hI .here rfl (zp rfl (zaX rfl) (zac (zy (zK ?_)))))
  cases h
  exact zo (.cell rfl .here ty40 (.tmp rfl .nil)) .nil ⟨rfl, rfl⟩
 refine zav (j := 32) h rfl (fun g8 h => ?_) (fun g8 h => ?_)
 ·exact rvt 32 rfl rfl rfl g8 (zZ rfl GTab.f3 zf5 rfl (z := y4.1.types)) (rvt 32 rfl rfl rfl g8 (zf ty38 rfl) (rvt 32 rfl rfl rfl g8 (zaR (l := y4.1.types) rfl hI sl38) (rvt 32 rfl rfl rfl g8 (zii rfl rfl) (zp rfl (zs rfl g8 rfl) (hJ7 _ () h _ (jk 5 37 rfl rfl rfl))))))
 exact rpv 32 rfl rfl rfl g8 (rpv 32 rfl rfl rfl g8 (rpv 32 rfl rfl rfl g8 (rpv 32 rfl rfl rfl g8 (zp rfl (zr rfl g8 rfl) (hJ7 _ () h _ (jk 5 37 rfl rfl rfl))))))

end Go.Proofs.Q


namespace Go.Proofs.Q
open Go.Sy
set_option maxRecDepth 4000
theorem zfE : ∀ {a_t : GTab} {a_i : Int} {r : GTyp}, zco a_t a_i = some r → Ctr Tryd.prog 36 [isv (a_t), isv (a_i)] [] (fun R H => R = oneOf [isv (r)] ∧ H = []) := by
 intro a_t a_i r h
 unfold zco at h
 refine zu Tryd.func36 rfl fun w0 S0 hT => wsr (oT (zbd (y := a_t) rfl hI (oT (zag _ ze54 fun b1 => rnf (zj (wsr (oM rfl (oV (zai rfl rfl) ?_))))))))
 refine oM rfl (zaz (jb 13) je .nil h 6 rfl (fun q2 g2 h => ?_) (fun J3 h hJ3 => ?_))
 ·refine rnf (zg h rfl (fun _ h => ?_) (fun _ h => ?_))
  ·refine wsr (oV (zaE (z := (GTyp.mk (0 : Int) ([] : (List Tag)) (GCon.mk false false false false (0 : Int) (0 : Int)) ([] : (List GItem)) ([] : (List GFld)) (0 : Int) false (0 : Int))) rfl bu54 ze54 .nil) (oT (zk (y' := ((GTyp.mk (0 : Int) ([] : (List Tag)) (GCon.mk false false false false (0 : Int) (0 : Int)) ([] : (List GItem)) ([] : (List GFld)) (0 : Int) false (0 : Int)) : GTyp)) ty54 rfl rfl hI .here rfl (rnf (zK (zB ?_))))))
   cases h
   exact zo (.cell rfl .here ty54 .nil) .nil ⟨rfl, rfl⟩
  refine wkf (wsr (oV (zZ rfl GTab.f3 zf5 rfl (z := a_t.types)) (oV (zf ty38 rfl) (oM rfl (zb h fun y5 hy5 h => oV (zaB (l := a_t.types) rfl hI rfl sl38 hy5) (oV (zf ty54 rfl) (oT (zk (y' := (y5 : GTyp)) ty54 rfl rfl hI .here rfl ?_))))))))
  refine rnf (zK ?_)
  cases h
  exact zo (.cell rfl .here ty54 .nil) .nil ⟨rfl, rfl⟩
 refine zC (j := 7) h rfl (fun g4 h => ?_) (fun g4 h => ?_)
 ·exact oP 7 rfl rfl g4 (oP 7 rfl rfl g4 (oP 7 rfl rfl g4 (oP 7 rfl rfl g4 (oP 7 rfl rfl g4 (oV (zs rfl g4 rfl) (hJ3 _ () h _ (jk 6 13 rfl rfl rfl)))))))
 exact oK 7 rfl rfl rfl g4 (zq rfl) (oK 7 rfl rfl rfl g4 (zZ rfl GTab.f3 zf5 rfl (z := a_t.types)) (oK 7 rfl rfl rfl g4 (zf ty38 rfl) (oK 7 rfl rfl rfl g4 (zaR (l := a_t.types) rfl hI sl38) (oK 7 rfl rfl rfl g4 (zed rfl rfl) (oV (zr rfl g4 rfl) (hJ3 _ () h _ (jk 6 13 rfl rfl rfl)))))))


theorem zcM : ∀ {zd4 : Int} {a_to : Int} {r : (List Int)}, zbQ zd4 a_to = some r → Ctr Tryd.prog 37 [isv (zd4), isv (a_to)] [] (fun R H => ∃ u1 : Vt, R = oneOf [vecv u1 ((r).length)] ∧ H = [vecE u1 (r)]) := by
 intro zd4 a_to r h
 unfold zbQ at h
 refine zu Tryd.func37 rfl fun w0 S0 hT => wsr (oA rfl (zQ (zeS (α := Int)) (zQ (zY 4 rfl nilvV) (rnf (wsr (oA rfl (zQ (zeS (α := Int)) ?_)))))))
 refine zQ (zY 5 rfl nilvV) (rnf (zj (wsr (oM rfl (oA rfl (rnf (zt (zaQ (ι := (List Int) × Int) (γ := Vt) (fun q3 g3 => [(5, vecv g3 (q3.1.length)), (6, isv (q3.2))]) (fun q3 g3 => [vecE g3 (q3.1 : List Int)]) h (none) (za (j := 5) rfl (vecvE (by first | rfl | simp)) (za (j := 6) rfl hI zd)) k1 (fun L4 q3 g3 Q13 h hL4 eL4 rL4 => ?_)))))))))
 refine zj (wsr (oM rfl (oM rfl (oV (zai rfl rfl) (rnf (zg h rfl (fun _ h => ?_) (fun _ h => ?_)))))))
 ·refine wkf (zj (zt (zh (oM rfl (oM rfl (oT (zad (l := ([q3.2] : (List Int))) el22 (.cons rfl hI .nil) rfl rfl (zar h fun q11 h => oT (zgc (m := ([q3.2] : (List Int))) zdo rfl rfl zO .here (by first | rfl | simp) q11 fun v10 => ?_)))))))))
  refine oA rfl (zx (zi (zy (zh (oM rfl (zz h fun q12 h => oV (zaa rfl rfl q12) (oA rfl ?_)))))))
  exact zx (hL4 _ (v10) h _ (ze 13 rfl rfl (za (j := 5) rfl (vecvE (by first | rfl | simp)) (za (j := 6) rfl hI zd)) k2))
 refine zae (zU (eL4 _ _ (zF (zy (wsr (oM rfl (oA rfl (rnf ?_))))))))
 refine zK (zo (.as rfl (vecvE (by first | rfl | simp)) .nil) k1 ?_)
 cases h
 exact ⟨g3, rfl, rfl⟩


theorem zfM : ∀ {a_x : GTyp} {a_a1 : (List Tag)} {zjV : Nat} {t_a_a11 : Tok} {r : (List Tag)}, zbI a_x a_a1 = some r → Ctr Tryd.prog 109 [isv (a_x), ptrv zjV (Fld.id (TList Tag))] [boxE zjV ((TList.mk t_a_a11 a_a1) : (TList Tag)), tokE t_a_a11] (fun R H => ∃ u1 : Tok, R = oneOf [] ∧ H = [boxE zjV ((TList.mk u1 r)), tokE u1]) := by
 intro a_x a_a1 zjV t_a_a11 r h
 unfold zbI at h
 refine zu Tryd.func109 rfl fun w0 S0 hT => wsr (oT (zbd (y := a_x) rfl hI (rnf (wsr (oV (zZ rfl GTyp.f1 zeH rfl (z := a_x.tags)) (oV (zf ty48 rfl) (oV (zaR (l := a_x.tags) rfl hI sl48) (oV (zbu rfl rfl) ?_))))))))
 refine rnf (zg h rfl (fun _ h => ?_) (fun _ h => ?_))
 ·refine zS (.v 1 (.v 2 (.v 3 (.v 4 (.alt 0 (.t 5 (.t 6 (.t 7 .nil))) (.t 5 (.t 0 (.t 6 (.t 7 .nil))))))))) moOrd (by kernel_rfl) ?_
  refine zp rfl (zZ rfl GTyp.f1 zeH rfl (z := a_x.tags)) (zp rfl (zf ty48 rfl) (zb h fun y2 hy2 h => zp rfl (zaB (l := a_x.tags) rfl hI rfl sl48 hy2) (zp rfl (zf ty57 rfl) (zar h fun q5 h => zbw ?_ ?_))))
  ·refine zT rfl rfl (zL (R := appv t_a_a11 (a_a1)) ty48 rfl .here isvT1 (zT rfl rfl (zad (l := ([y2] : (List Tag))) el48 (.cons rfl hI .nil) rfl rfl (zT rfl rfl (zbs (l := a_a1) (m := ([y2] : (List Tag))) zft rfl hI rfl zO tH q5 fun t4 => zT rfl rfl (zk (y' := ((TList.mk t4 (a_a1 ++ ([y2] : (List Tag)))) : (TList Tag))) ty48 rfl rfl isvT2 tH rfl (zac (zam .nil k2 ?_))))))))
   cases h
   exact ⟨t4, rfl, rfl⟩
  refine zT rfl rfl (zad (l := ([y2] : (List Tag))) el48 (.cons rfl hI .nil) rfl rfl (zT rfl rfl (zL (R := appv t_a_a11 (a_a1)) ty48 rfl .here isvT1 (zT rfl rfl (zbs (l := a_a1) (m := ([y2] : (List Tag))) zft rfl hI rfl zO tH q5 fun t7 => zT rfl rfl (zk (y' := ((TList.mk t7 (a_a1 ++ ([y2] : (List Tag)))) : (TList Tag))) ty48 rfl rfl isvT2 tH rfl (zac (zam .nil k2 ?_))))))))
  cases h
  exact ⟨t7, rfl, rfl⟩
 refine zab (zam .nil k2 ?_)
 cases h
 exact ⟨t_a_a11, rfl, rfl⟩


def zdw (f' : GTys → Int → Int → (List Tag) → Option (GTys × Int × (List Tag))) : Prop :=
 ∀ {a_t : GTys} {zeO : Int} {zdG : Int} {zeU : (List Tag)} {zfx : Nat} {zd1 : Nat} {zdm : Nat} {t_a_do__01 : Tok} {r : GTys × Int × (List Tag)}, f' a_t zeO zdG zeU = some r → Ctr Tryd.prog 108 [ptrv zfx (Fld.id GTys), isv (zeO), ptrv zd1 (Fld.id Int), clov 109 [ptrv zdm (Fld.id (TList Tag))]] [boxE zfx (a_t : GTys), boxE zd1 (zdG : Int), boxE zdm ((TList.mk t_a_do__01 zeU) : (TList Tag)), tokE t_a_do__01] (fun R H => ∃ u1 : Tok, R = oneOf [] ∧ H = [boxE zfx (r.1), boxE zd1 (r.2.1), boxE zdm ((TList.mk u1 r.2.2)), tokE u1])
theorem zgM {zcZ : GTys → Int → Int → (List Tag) → Option (GTys × Int × (List Tag))} (zg5 : zdw zcZ) : ∀ {a_t : GTys} {zeO : Int} {zdG : Int} {zeU : (List Tag)} {zfx : Nat} {zd1 : Nat} {zdm : Nat} {t_a_do__01 : Tok} {r : GTys × Int × (List Tag)}, zbl zcZ a_t zeO zdG zeU = some r → Ctr Tryd.prog 108 [ptrv zfx (Fld.id GTys), isv (zeO), ptrv zd1 (Fld.id Int), clov 109 [ptrv zdm (Fld.id (TList Tag))]] [boxE zfx (a_t : GTys), boxE zd1 (zdG : Int), boxE zdm ((TList.mk t_a_do__01 zeU) : (TList Tag)), tokE t_a_do__01] (fun R H => ∃ u1 : Tok, R = oneOf [] ∧ H = [boxE zfx (r.1), boxE zd1 (r.2.1), boxE zdm ((TList.mk u1 r.2.2)), tokE u1]) := by
 intro a_t zeO zdG zeU zfx zd1 zdm t_a_do__01 r h
 unfold zbl at h
 refine zu Tryd.func108 rfl fun w0 S0 hT => zj (wsr (oM rfl (oV (zai rfl rfl) (oM rfl (zaz (jb 21) je .nil h 8 rfl (fun q2 g2 h => ?_) (fun J3 h hJ3 => ?_))))))
 ·refine oM rfl (zaz (jb 27) je .nil h 5 rfl (fun q5 g5 h => ?_) (fun J6 h hJ6 => ?_))
  ·refine rnf (zg h rfl (fun _ h => ?_) (fun _ h => ?_))
   ·refine zK (zB (zo .nil k4 ?_))
    cases h
    exact ⟨t_a_do__01, rfl, rfl⟩
   refine wkf (wsr (oM rfl (oV (zw rfl) (oT (zL (R := isv (zdG)) ty3 rfl tH hI (zz h fun q8 h => oV (zaL rfl rfl q8) (oV (zw rfl) (oT (zk (y' := ((zdG - (1 : Int)) : Int)) ty3 rfl rfl hI tH rfl ?_)))))))))
   refine rnf (wsr (oM rfl (oV (zw rfl) (oV (zaj rfl GTys.f0 zkh) (oT (zL (R := isv (a_t.l)) ty38 rfl tH hI (oM rfl (zb h fun y9 hy9 h => oV (zaB (l := a_t.l) rfl hI rfl sl38 hy9) ?_))))))))
   refine oV (zf ty54 rfl) (oT (zag _ ze54 fun b10 => oT (zk (y' := (y9 : GTyp)) ty54 rfl rfl hI .here rfl (zQ (zas 8 .here rfl) (rnf (wsr (oM rfl (oV (zf ty54 rfl) (zb h fun y11 hy11 h => ?_)))))))))
   refine oT (zeV rfl (s1 rfl) (zfM hy11) hT (.cons tI (.cons tI .nil)) (fun R H' hR => ?_))
   obtain ⟨t12, rfl, rfl⟩ := hR
   refine rnf (zj (wsr (oV (zZ rfl GTyp.f1 zeH rfl (z := y9.tags)) (oV (zf ty48 rfl) (oV (zaR (l := y9.tags) rfl hI sl48) (oV (zbu rfl rfl) (rnf (zg h rfl (fun _ h => ?_) (fun _ h => ?_)))))))))
   ·refine zK (zB (zo .nil (.cons (.there tI) (.cons tI k2)) ?_))
    cases h
    exact ⟨t12, rfl, rfl⟩
   refine wkf (wsr (oV (zZ rfl GTyp.f4 zbE rfl (z := y9.fields)) (oV (zf ty52 rfl) (oV (zaR (l := y9.fields) rfl hI sl52) (oM rfl (rnf (zt (zaQ (ι := Int × (List Tag) × Int × GTys) (γ := Tok) (fun q13 g13 => [(50, isv (q13.1))]) (fun q13 g13 => [boxE zdm ((TList.mk g13 q13.2.1) : (TList Tag)), tokE g13, boxE zd1 (q13.2.2.1 : Int), boxE zfx (q13.2.2.2 : GTys)]) h (t12) (za (j := 50) rfl hI zd) k4 (fun L14 q13 g13 Q25 h hL14 eL14 rL14 => ?_)))))))))
   refine wsr (oV (zai rfl rfl) (rnf (zj (zg h rfl (fun _ h => ?_) (fun _ h => ?_)))))
   ·refine wkf (zj (zt (wsr (zb h fun y20 hy20 h => oV (zaB (l := y9.fields) rfl hI rfl sl52 hy20) (oV (zf ty65 rfl) (oT (zag _ ze65 fun b21 => oT (zk (y' := (y20 : GFld)) ty65 rfl rfl hI .here rfl ?_))))))))
    refine zQ (zas 10 .here rfl) (rnf (zh (oM rfl (oV (zZ rfl GFld.f1 zc6 rfl (z := y20.ty)) (oV (zf ty3 rfl) (oM rfl (oM rfl (zb h fun y22 hy22 h => ?_))))))))
    refine oT (zM (zg5 hy22) hT (s4 rfl rfl rfl rfl) (.cons (.there tI) (.cons tI k2)) (fun R H' hR => ?_))
    obtain ⟨t23, rfl, rfl⟩ := hR
    exact zx (zi (zy (zh (zz h fun q24 h => oV (zaa rfl rfl q24) (oM rfl (zx (hL14 _ (t23) h _ (ze 14 rfl rfl (za (j := 50) rfl hI zd) (.cons tI (.cons tI (.cons tH k1)))))))))))
   refine zae (zU (eL14 _ _ (zF (zam .nil (.cons (.there tI) (.cons tI k2)) ?_))))
   cases h
   exact ⟨g13, rfl, rfl⟩
  refine zC (j := 22) h rfl (fun g7 h => ?_) (fun g7 h => ?_)
  ·exact oP 22 rfl rfl g7 (oP 22 rfl rfl g7 (oP 22 rfl rfl g7 (oP 22 rfl rfl g7 (oV (zs rfl g7 rfl) (hJ6 _ () h _ (ze 5 rfl rfl (za (j := 27) rfl hI zd) k4))))))
  exact oK 22 rfl rfl rfl g7 (zq rfl) (oK 22 rfl rfl rfl g7 (zw rfl) (zaF rfl rfl (dj := 22) rfl g7 (zL (R := isv (zdG)) ty3 rfl tH hI (oK 22 rfl rfl rfl g7 (zao rfl rfl) (oV (zr rfl g7 rfl) (hJ6 _ () h _ (ze 5 rfl rfl (za (j := 27) rfl hI zd) k4)))))))
 refine zC (j := 13) h rfl (fun g4 h => ?_) (fun g4 h => ?_)
 ·exact oP 13 rfl rfl g4 (oP 13 rfl rfl g4 (oP 13 rfl rfl g4 (oP 13 rfl rfl g4 (oP 13 rfl rfl g4 (oP 13 rfl rfl g4 (oP 13 rfl rfl g4 (oV (zs rfl g4 rfl) (hJ3 _ () h _ (ze 8 rfl rfl (za (j := 21) rfl hI zd) k4)))))))))
 exact oK 13 rfl rfl rfl g4 (zq rfl) (oK 13 rfl rfl rfl g4 (zq rfl) (oK 13 rfl rfl rfl g4 (zw rfl) (oK 13 rfl rfl rfl g4 (zaj rfl GTys.f0 zkh) (zaF rfl rfl (dj := 13) rfl g4 (zL (R := isv (a_t.l)) ty38 rfl .here hI (oK 13 rfl rfl rfl g4 (zaR (l := a_t.l) rfl hI sl38) (oK 13 rfl rfl rfl g4 (zed rfl rfl) (oV (zr rfl g4 rfl) (hJ3 _ () h _ (ze 8 rfl rfl (za (j := 21) rfl hI zd) k4))))))))))

theorem zdR : ∀ n, zdw (zbZ n)
 | 0 => fun h => (by cases h)
 | n + 1 => zgM (zdR n)
theorem zg6 (n : Nat) : zdw (zbZ n) := (zdR n)

theorem zgE : ∀ {a_t : GTys} {zeO : Int} {zfx : Nat} {r : (List Tag) × GTys}, zcX a_t zeO = some r → Ctr Tryd.prog 94 [ptrv zfx (Fld.id GTys), isv (zeO)] [boxE zfx (a_t : GTys)] (fun R H => R = oneOf [isv (r.1)] ∧ H = [boxE zfx (r.2)]) := by
 intro a_t zeO zfx r h
 unfold zcX at h
 refine zu Tryd.func94 rfl fun w0 S0 hT => wsr (oA rfl (rnf (wsr (oT (zag _ zpm fun b1 => zQ (za1) (rnf (wsr ?_)))))))
 refine oT (zag _ ze3 fun b3 => oT (zk (y' := ((300 : Int) : Int)) ty3 rfl rfl hI .here rfl (rnf (wsr (oM rfl (oM rfl (oV (zhm (s1 rfl)) (zb h fun y4 hy4 h => oT (zM (zg6 fuel hy4) hT (s4 rfl rfl rfl rfl) (.cons (.there tI) (.cons .here (.cons tH k1))) (fun R H' hR => ?_))))))))))
 obtain ⟨t5, rfl, rfl⟩ := hR
 refine rnf (wsr (oT (zL (R := appv t5 (y4.2.2)) ty48 rfl tI isvT1 (oA rfl (rnf (zK ?_))))))
 cases h
 exact zo (.as rfl zO .nil) k1 ⟨rfl, rfl⟩


theorem ziV : ∀ {a_t : GTab} {a_i : Int} {r : (List Tag)}, zd3 a_t a_i = some r → Ctr Tryd.prog 62 [isv (a_t), isv (a_i)] [] (fun R H => R = oneOf [isv (r)] ∧ H = []) := by
 intro a_t a_i r h
 unfold zd3 at h
 refine zu Tryd.func62 rfl fun w0 S0 hT => wsr (oT (zbd (y := a_t) rfl hI (oA rfl (rnf (wsr (oV (zZ rfl GTab.f3 zf5 rfl (z := a_t.types)) (oV (zf ty38 rfl) (oV (zaE (z := (GTys.mk a_t.types)) rfl bu146 ze146 (.cons GTys.f0 zkh rfl hI .nil)) ?_))))))))
 refine oT (zka (y := (GTys.mk a_t.types)) rfl hI fun b1 => oA rfl (rnf (wsr (oM rfl (oM rfl (zb h fun y2 hy2 h => oT (zA (zgE hy2) hT (s2 rfl rfl) k1 (oA rfl ?_))))))))
 refine rnf (zK ?_)
 cases h
 exact zo (.tmp rfl .nil) .nil ⟨rfl, rfl⟩


theorem zgB : ∀ {a_a : Tag} {a_b : Tag} {r : Bool}, zeh a_a a_b = some r → Ctr Tryd.prog 41 [isv (a_a), isv (a_b)] [] (fun R H => R = oneOf [isv (r)] ∧ H = []) := by
 intro a_a a_b r h
 unfold zeh at h
 refine zu Tryd.func41 rfl fun w0 S0 hT => wsr (oT (zbd (y := a_a) rfl hI (oT (zbd (y := a_b) rfl hI (oA rfl (rnf (zj (wsr (oV (zZ rfl Tag.f0 zgh rfl (z := a_a.cls)) ?_)))))))))
 refine oV (zf ty3 rfl) (oV (zZ rfl Tag.f0 zgh rfl (z := a_b.cls)) (oV (zf ty3 rfl) (oV (zbP rfl rfl) (rnf (zg h rfl (fun _ h => ?_) (fun _ h => ?_))))))
 ·refine wsr (oV (zZ rfl Tag.f0 zgh rfl (z := a_a.cls)) (oV (zf ty3 rfl) (oV (zZ rfl Tag.f0 zgh rfl (z := a_b.cls)) (oV (zf ty3 rfl) (oV (zai rfl rfl) (oA rfl (rnf (zK ?_))))))))
  refine zB ?_
  cases h
  exact zo (.tmp rfl .nil) .nil ⟨rfl, rfl⟩
 refine wkf (wsr (oV (zZ rfl Tag.f1 zem rfl (z := a_a.num)) (oV (zf ty3 rfl) (oV (zZ rfl Tag.f1 zem rfl (z := a_b.num)) (oV (zf ty3 rfl) (oV (zai rfl rfl) (oA rfl (rnf ?_))))))))
 refine zK ?_
 cases h
 exact zo (.tmp rfl .nil) .nil ⟨rfl, rfl⟩


theorem zaK : ∀ {a_t : GTab} {a_i : Int} {r : Tag}, zdN a_t a_i = some r → Ctr Tryd.prog 40 [isv (a_t), isv (a_i)] [] (fun R H => R = oneOf [isv (r)] ∧ H = []) := by
 intro a_t a_i r h
 unfold zdN at h
 refine zu Tryd.func40 rfl fun w0 S0 hT => wsr (oT (zbd (y := a_t) rfl hI (oT (zag _ ze57 fun b1 => rnf (wsr (oV (zf ty40 rfl) (oM rfl (zb h fun y2 hy2 h => ?_))))))))
 refine oT (zA (ziV hy2) hT (s2 rfl rfl) .nil (oA rfl (rnf (zj (wsr (oM rfl (oV (zaR (l := y2) rfl hI sl48) (oV (zao rfl rfl) (rnf ?_)))))))))
 refine zg h rfl (fun _ h => ?_) (fun _ h => ?_)
 ·refine wsr (oV (zaE (z := (Tag.mk (0 : Int) (0 : Int))) rfl bu57 ze57 .nil) (oT (zk (y' := ((Tag.mk (0 : Int) (0 : Int)) : Tag)) ty57 rfl rfl hI .here rfl (rnf (zK (zB ?_))))))
  cases h
  exact zo (.cell rfl .here ty57 .nil) .nil ⟨rfl, rfl⟩
 refine wkf (wsr (oM rfl (zb h fun y3 hy3 h => oV (zaB (l := y2) rfl hI rfl sl48 hy3) (oV (zf ty57 rfl) (oT (zag _ ze57 fun b4 => oT (zk (y' := (y3 : Tag)) ty57 rfl rfl hI .here rfl (rnf ?_))))))))
 refine zj (wsr (oM rfl (oV (zaR (l := y2) rfl hI sl48) (oM rfl (rnf (zt (zaQ (ι := Int × Tag) (γ := Unit) (fun q5 g5 => [(21, isv (q5.1))]) (fun q5 g5 => [boxE b4 (q5.2 : Tag)]) h () (za (j := 21) rfl hI zd) k1 (fun L6 q5 g5 Q19 h hL6 eL6 rL6 => wsr ?_))))))))
 refine oV (zai rfl rfl) (rnf (zj (zg h rfl (fun _ h => ?_) (fun _ h => ?_))))
 ·refine wkf (zj (zdx (ι := Tag) (γ := Unit) (fun q13 g13 => []) (fun q13 g13 => [boxE b4 (q13 : Tag)]) k1 h (fun q13 g13 h => ?_) (fun J14 h hJ14 => ?_)))
  ·exact zh (zz h fun q18 h => oV (zaa rfl rfl q18) (oM rfl (zx (hL6 _ () h _ (ze 4 rfl rfl (za (j := 21) rfl hI zd) k2)))))
  refine zt (wsr (zb h fun y15 hy15 h => oV (zaB (l := y2) rfl hI rfl sl48 hy15) (oV (zf ty57 rfl) (oT (zag _ ze57 fun b16 => oT (zk (y' := (y15 : Tag)) ty57 rfl rfl hI .here rfl (zQ (zas 8 .here rfl) (rnf ?_))))))))
  refine wsr (oV (zf ty57 rfl) (oT (zL (R := isv (q5.2)) ty57 rfl .here hI (zb h fun y17 hy17 h => oT (zA (zgB hy17) hT (s2 rfl rfl) .nil (rnf (zg h rfl (fun _ h => ?_) (fun _ h => ?_))))))))
  ·exact zh (oV (zf ty57 rfl) (oT (zk (y' := (y15 : Tag)) ty57 rfl rfl hI .here rfl (zx (zi (hJ14 _ () h _ (ze 8 rfl rfl zd k2)))))))
  exact zab (zi (hJ14 _ () h _ (ze 7 rfl rfl zd k2)))
 refine zae (zU (eL6 _ _ (zF (zy (wsr (oT (zL (R := isv (q5.2)) ty57 rfl .here hI (oT (zk (y' := (q5.2 : Tag)) ty57 rfl rfl hI tH rfl (rnf ?_))))))))))
 refine zK ?_
 cases h
 exact zo (.cell rfl .here ty57 .nil) .nil ⟨rfl, rfl⟩


theorem zc9 : ∀ {a_a : Int} {a_b : Int} {a_a2 : GTab} {a_a3 : GTyp} {r : Int}, zbh a_a a_b a_a2 a_a3 = some r → Ctr Tryd.prog 39 [isv (a_a), isv (a_b), immv (a_a2), immv (a_a3)] [] (fun R H => R = oneOf [isv (r)] ∧ H = []) := by
 intro a_a a_b a_a2 a_a3 r h
 unfold zbh at h
 refine zu Tryd.func39 rfl fun w0 S0 hT => wsr (oA rfl (rnf (zj (zdx (ι := Tag × Tag) (γ := Unit) (fun q1 g1 => [(7, immv (q1.1)), (8, immv (q1.2))]) (fun q1 g1 => []) .nil h (fun q1 g1 h => ?_) (fun J2 h hJ2 => ?_)))))
 ·refine zj (zt (wsr (oV (zf ty57 rfl) (oV (zf ty57 rfl) (zb h fun y25 hy25 h => oT (zA (zgB hy25) hT (s2 rfl rfl) .nil (oA rfl (rnf ?_))))))))
  refine zg h rfl (fun _ h => ?_) (fun _ h => ?_)
  ·refine wsr (oA rfl (rnf (zK (zG (zB ?_)))))
   cases h
   exact zo (.tmp rfl .nil) .nil ⟨rfl, rfl⟩
  refine wsr (oV (zf ty57 rfl) (oV (zf ty57 rfl) (zb h fun y26 hy26 h => oT (zA (zgB hy26) hT (s2 rfl rfl) .nil (oA rfl (rnf (zg h rfl (fun _ h => ?_) (fun _ h => ?_))))))))
  ·refine wsr (oA rfl (rnf (zK (zG (zB ?_)))))
   cases h
   exact zo (.tmp rfl .nil) .nil ⟨rfl, rfl⟩
  refine zab (zi (zy (wsr (oA rfl (rnf (zK ?_))))))
  cases h
  exact zo (.tmp rfl .nil) .nil ⟨rfl, rfl⟩
 refine zS (.v 0 (.v 1 (.v 2 (.v 3 (.v 4 (.v 5 (.v 6 (.v 8 (.v 9 (.v 10 (.v 11 (.v 12 (.v 13 (.v 14 (.alt 7 (.alt 15 (.alt 16 (.t 17 (.t 18 (.t 19 .nil))) (.t 17 (.t 16 (.t 18 (.t 19 .nil))))) (.alt 16 (.alt 15 (.t 17 (.t 18 (.t 19 .nil))) (.t 17 (.t 15 (.t 18 (.t 19 .nil))))) (.t 17 (.alt 15 (.t 16 (.t 18 (.t 19 .nil))) (.t 16 (.t 15 (.t 18 (.t 19 .nil)))))))) (.alt 16 (.alt 7 (.alt 15 (.t 17 (.t 18 (.t 19 .nil))) (.t 17 (.t 15 (.t 18 (.t 19 .nil))))) (.t 17 (.t 7 (.t 15 (.t 18 (.t 19 .nil)))))) (.t 17 (.alt 7 (.alt 15 (.t 16 (.t 18 (.t 19 .nil))) (.t 16 (.t 15 (.t 18 (.t 19 .nil))))) (.t 16 (.t 7 (.t 15 (.t 18 (.t 19 .nil))))))))))))))))))))))) moOrd (by kernel_rfl) ?_
 refine zp rfl (zf ty40 rfl) (zp rfl (zZ rfl GTyp.f4 zbE rfl (z := a_a3.fields)) (zp rfl (zf ty52 rfl) (rvm rfl rfl (zb h fun y3 hy3 h => zp rfl (zaB (l := a_a3.fields) rfl hI rfl sl52 hy3) (zp rfl (zZ rfl GFld.f1 zc6 rfl (z := y3.ty)) (zp rfl (zf ty3 rfl) (zp rfl (zf ty40 rfl) ?_)))))))
 refine zp rfl (zZ rfl GTyp.f4 zbE rfl (z := a_a3.fields)) (zp rfl (zf ty52 rfl) (rvm rfl rfl (zb h fun y4 hy4 h => zp rfl (zaB (l := a_a3.fields) rfl hI rfl sl52 hy4) (zp rfl (zZ rfl GFld.f1 zc6 rfl (z := y4.ty)) (zp rfl (zf ty3 rfl) (zb h fun y5 hy5 h => zb h fun y6 hy6 h => ?_))))))
 refine zbw ?_ (zbw ?_ ?_)
 ·refine zT rfl rfl (zA (zaK hy5) hT (s2 rfl rfl) .nil (zbw ?_ (zbw ?_ ?_)))
  ·refine zT rfl rfl (zA (zaK hy6) hT (s2 rfl rfl) .nil (zbw ?_ ?_))
   ·exact zT rfl rfl (zag _ ze57 fun b7 => zT rfl rfl (zag _ ze57 fun b8 => zT rfl rfl (zk (y' := (y5 : Tag)) ty57 rfl rfl hI tH rfl (zbj (zas 7 .here rfl) (zT rfl rfl (zk (y' := (y6 : Tag)) ty57 rfl rfl hI .here rfl (zbj (zas 8 .here rfl) (zac (hJ2 _ () h _ (ze 20 rfl rfl (za (j := 7) rfl hI (za (j := 8) rfl hI zd)) .nil))))))))))
   exact zT rfl rfl (zag _ ze57 fun b9 => zT rfl rfl (zag _ ze57 fun b10 => zT rfl rfl (zk (y' := (y5 : Tag)) ty57 rfl rfl hI .here rfl (zbj (zas 7 .here rfl) (zT rfl rfl (zk (y' := (y6 : Tag)) ty57 rfl rfl hI .here rfl (zbj (zas 8 .here rfl) (zac (hJ2 _ () h _ (ze 20 rfl rfl (za (j := 7) rfl hI (za (j := 8) rfl hI zd)) .nil))))))))))
  ·refine zT rfl rfl (zag _ ze57 fun b11 => zbw ?_ ?_)
   ·exact zT rfl rfl (zA (zaK hy6) hT (s2 rfl rfl) .nil (zT rfl rfl (zag _ ze57 fun b12 => zT rfl rfl (zk (y' := (y5 : Tag)) ty57 rfl rfl hI tH rfl (zbj (zas 7 .here rfl) (zT rfl rfl (zk (y' := (y6 : Tag)) ty57 rfl rfl hI .here rfl (zbj (zas 8 .here rfl) (zac (hJ2 _ () h _ (ze 20 rfl rfl (za (j := 7) rfl hI (za (j := 8) rfl hI zd)) .nil)))))))))))
   exact zT rfl rfl (zag _ ze57 fun b13 => zT rfl rfl (zA (zaK hy6) hT (s2 rfl rfl) .nil (zT rfl rfl (zk (y' := (y5 : Tag)) ty57 rfl rfl hI tH rfl (zbj (zas 7 .here rfl) (zT rfl rfl (zk (y' := (y6 : Tag)) ty57 rfl rfl hI .here rfl (zbj (zas 8 .here rfl) (zac (hJ2 _ () h _ (ze 20 rfl rfl (za (j := 7) rfl hI (za (j := 8) rfl hI zd)) .nil)))))))))))
  refine zT rfl rfl (zag _ ze57 fun b14 => zbw ?_ ?_)
  ·exact zT rfl rfl (zA (zaK hy6) hT (s2 rfl rfl) .nil (zT rfl rfl (zag _ ze57 fun b15 => zT rfl rfl (zk (y' := (y5 : Tag)) ty57 rfl rfl hI .here rfl (zbj (zas 7 .here rfl) (zT rfl rfl (zk (y' := (y6 : Tag)) ty57 rfl rfl hI .here rfl (zbj (zas 8 .here rfl) (zac (hJ2 _ () h _ (ze 20 rfl rfl (za (j := 7) rfl hI (za (j := 8) rfl hI zd)) .nil)))))))))))
  exact zT rfl rfl (zag _ ze57 fun b16 => zT rfl rfl (zA (zaK hy6) hT (s2 rfl rfl) .nil (zT rfl rfl (zk (y' := (y5 : Tag)) ty57 rfl rfl hI .here rfl (zbj (zas 7 .here rfl) (zT rfl rfl (zk (y' := (y6 : Tag)) ty57 rfl rfl hI .here rfl (zbj (zas 8 .here rfl) (zac (hJ2 _ () h _ (ze 20 rfl rfl (za (j := 7) rfl hI (za (j := 8) rfl hI zd)) .nil)))))))))))
 ·refine zT rfl rfl (zag _ ze57 fun b17 => zbw ?_ ?_)
  ·refine zT rfl rfl (zA (zaK hy5) hT (s2 rfl rfl) .nil (zbw ?_ ?_))
   ·exact zT rfl rfl (zA (zaK hy6) hT (s2 rfl rfl) .nil (zT rfl rfl (zag _ ze57 fun b18 => zT rfl rfl (zk (y' := (y5 : Tag)) ty57 rfl rfl hI tH rfl (zbj (zas 7 .here rfl) (zT rfl rfl (zk (y' := (y6 : Tag)) ty57 rfl rfl hI .here rfl (zbj (zas 8 .here rfl) (zac (hJ2 _ () h _ (ze 20 rfl rfl (za (j := 7) rfl hI (za (j := 8) rfl hI zd)) .nil)))))))))))
   exact zT rfl rfl (zag _ ze57 fun b19 => zT rfl rfl (zA (zaK hy6) hT (s2 rfl rfl) .nil (zT rfl rfl (zk (y' := (y5 : Tag)) ty57 rfl rfl hI tH rfl (zbj (zas 7 .here rfl) (zT rfl rfl (zk (y' := (y6 : Tag)) ty57 rfl rfl hI .here rfl (zbj (zas 8 .here rfl) (zac (hJ2 _ () h _ (ze 20 rfl rfl (za (j := 7) rfl hI (za (j := 8) rfl hI zd)) .nil)))))))))))
  exact zT rfl rfl (zag _ ze57 fun b20 => zT rfl rfl (zA (zaK hy5) hT (s2 rfl rfl) .nil (zT rfl rfl (zA (zaK hy6) hT (s2 rfl rfl) .nil (zT rfl rfl (zk (y' := (y5 : Tag)) ty57 rfl rfl hI tH rfl (zbj (zas 7 .here rfl) (zT rfl rfl (zk (y' := (y6 : Tag)) ty57 rfl rfl hI .here rfl (zbj (zas 8 .here rfl) (zac (hJ2 _ () h _ (ze 20 rfl rfl (za (j := 7) rfl hI (za (j := 8) rfl hI zd)) .nil)))))))))))))
 refine zT rfl rfl (zag _ ze57 fun b21 => zbw ?_ ?_)
 ·refine zT rfl rfl (zA (zaK hy5) hT (s2 rfl rfl) .nil (zbw ?_ ?_))
  ·exact zT rfl rfl (zA (zaK hy6) hT (s2 rfl rfl) .nil (zT rfl rfl (zag _ ze57 fun b22 => zT rfl rfl (zk (y' := (y5 : Tag)) ty57 rfl rfl hI .here rfl (zbj (zas 7 .here rfl) (zT rfl rfl (zk (y' := (y6 : Tag)) ty57 rfl rfl hI .here rfl (zbj (zas 8 .here rfl) (zac (hJ2 _ () h _ (ze 20 rfl rfl (za (j := 7) rfl hI (za (j := 8) rfl hI zd)) .nil)))))))))))
  exact zT rfl rfl (zag _ ze57 fun b23 => zT rfl rfl (zA (zaK hy6) hT (s2 rfl rfl) .nil (zT rfl rfl (zk (y' := (y5 : Tag)) ty57 rfl rfl hI .here rfl (zbj (zas 7 .here rfl) (zT rfl rfl (zk (y' := (y6 : Tag)) ty57 rfl rfl hI .here rfl (zbj (zas 8 .here rfl) (zac (hJ2 _ () h _ (ze 20 rfl rfl (za (j := 7) rfl hI (za (j := 8) rfl hI zd)) .nil)))))))))))
 exact zT rfl rfl (zag _ ze57 fun b24 => zT rfl rfl (zA (zaK hy5) hT (s2 rfl rfl) .nil (zT rfl rfl (zA (zaK hy6) hT (s2 rfl rfl) .nil (zT rfl rfl (zk (y' := (y5 : Tag)) ty57 rfl rfl hI .here rfl (zbj (zas 7 .here rfl) (zT rfl rfl (zk (y' := (y6 : Tag)) ty57 rfl rfl hI .here rfl (zbj (zas 8 .here rfl) (zac (hJ2 _ () h _ (ze 20 rfl rfl (za (j := 7) rfl hI (za (j := 8) rfl hI zd)) .nil)))))))))))))


theorem zcj : ∀ {zaf : (List Int)} {a_a : Int} {a_b : Int} {zR : GTab} {zau : GTyp} {zD : Vt} {r : (List Int)}, zbc zaf a_a a_b zR zau = some r → Ctr Tryd.prog 106 [vecv zD (zaf.length), isv (a_a), isv (a_b), clov 39 [immv (zR), immv (zau)]] [vecE zD (zaf : List Int)] (fun R H => R = oneOf [] ∧ H = [vecE zD (r)]) := by
 intro zaf a_a a_b zR zau zD r h
 unfold zbc at h
 refine zu Tryd.func106 rfl fun w0 S0 hT => wsr (oM rfl (zz h fun q1 h => oV (zaa rfl rfl q1) (oA rfl (rnf (zt (zaQ (ι := (List Int) × Int) (γ := Unit) (fun q2 g2 => [(8, isv (q2.2)), (0, vecv zD (q2.1.length))]) (fun q2 g2 => [vecE zD (q2.1 : List Int)]) h () (za (j := 8) rfl hI (za (j := 0) rfl (vecvE (by first | rfl | simp)) zd)) k1 (fun L3 q2 g2 Q94 h hL3 eL3 rL3 => ?_)))))))
 refine zj (wsr (oM rfl (oM rfl (oV (zai rfl rfl) (rnf (zg h rfl (fun _ h => ?_) (fun _ h => ?_)))))))
 ·refine wkf (zj (zt (wsr (oM rfl (oA rfl (rnf (zt (zaQ (ι := (List Int) × Int) (γ := Unit) (fun q49 g49 => [(9, isv (q49.2)), (0, vecv zD (q49.1.length))]) (fun q49 g49 => [vecE zD (q49.1 : List Int)]) h () (za (j := 9) rfl hI (za (j := 0) rfl (vecvE (by first | rfl | simp)) zd)) k1 (fun L50 q49 g49 Q93 h hL50 eL50 rL50 => ?_)))))))))
  refine zj (zj (zgF 0 .here rfl (by first | rfl | simp) (fun o72 hn73 => ?_)))
  refine zS (.v 0 (.v 1 (.v 2 (.v 3 (.v 4 (.v 5 (.v 6 (.v 7 (.v 8 (.v 9 (.v 10 (.v 11 (.v 12 (.v 13 (.t 14 (.v 15 (.v 16 .nil))))))))))))))))) moOrd (by kernel_rfl) ?_
  refine rvm rfl rfl (rvm rfl rfl (zp rfl (zbu rfl rfl) (rvm rfl rfl (zcV (jb 34) je .nil h 13 rfl (fun q74 g74 h => ?_) (fun J75 h hJ75 => ?_)))))
  ·refine zac (zdf 0 hn73 rfl (zy (zg h rfl (fun _ h => ?_) (fun _ h => ?_))))
   ·refine wkf (zj (zt (zS (.v 0 (.v 1 (.v 2 (.v 3 (.v 4 (.v 5 (.v 6 (.v 7 (.v 8 (.v 10 (.v 11 (.v 12 (.alt 9 (.t 13 (.v 14 (.t 15 (.v 16 (.t 17 .nil))))) (.t 13 (.t 9 (.v 14 (.t 15 (.v 16 (.t 17 .nil))))))))))))))))))) moOrd (by kernel_rfl) ?_)))
    refine rvm rfl rfl (rvm rfl rfl (rvm rfl rfl (rvm rfl rfl (zz h fun q81 h => zp rfl (zaL rfl rfl q81) (rvm rfl rfl (rvm rfl rfl (zz h fun q82 h => ?_)))))))
    refine zp rfl (zaL rfl rfl q82) (zI h fun q83 h => zp rfl (zan (α := Int) sl22 rfl rfl q83.1 q83.2) (rvm rfl rfl (rvm rfl rfl (zI h fun q84 h => zp rfl (zan (α := Int) sl22 rfl rfl q84.1 q84.2) (zb h fun y85 hy85 h => zb h fun y86 hy86 h => ?_)))))
    refine zI h fun q87 h => zb h fun y88 hy88 h => zI h fun q89 h => zb h fun y90 hy90 h => zz h fun q91 h => zbw ?_ ?_
    ·refine zT rfl rfl (zax ty3 rfl .here hy85 ?_)
     refine zT rfl rfl (zax ty3 rfl .here hy86 ?_)
     refine zp rfl (zan (α := Int) sl22 rfl rfl q87.1 q87.2) (zT rfl rfl (zat ty3 rfl rfl .here hy88 (zp rfl (zan (α := Int) sl22 rfl rfl q89.1 q89.2) (zT rfl rfl (zat ty3 rfl rfl .here hy90 (zac (zi (zy (zh (oM rfl ?_))))))))))
     exact oV (zaL rfl rfl q91) (oA rfl (zx (hL50 _ () h _ (ze 28 rfl rfl (za (j := 9) rfl hI (za (j := 0) rfl (vecvE (by first | rfl | simp)) zd)) k1))))
    refine zT rfl rfl (zax ty3 rfl .here hy86 ?_)
    refine zT rfl rfl (zax ty3 rfl .here hy85 ?_)
    refine zp rfl (zan (α := Int) sl22 rfl rfl q87.1 q87.2) (zT rfl rfl (zat ty3 rfl rfl .here hy88 (zp rfl (zan (α := Int) sl22 rfl rfl q89.1 q89.2) (zT rfl rfl (zat ty3 rfl rfl .here hy90 (zac (zi (zy (zh (oM rfl ?_))))))))))
    exact oV (zaL rfl rfl q91) (oA rfl (zx (hL50 _ () h _ (ze 28 rfl rfl (za (j := 9) rfl hI (za (j := 0) rfl (vecvE (by first | rfl | simp)) zd)) k1))))
   refine zae (zU (eL50 _ _ (zF (zi (zy (zh (oM rfl (zz h fun q92 h => ?_))))))))
   exact oV (zaa rfl rfl q92) (oA rfl (zx (hL3 _ () h _ (ze 19 rfl rfl (za (j := 8) rfl hI (za (j := 0) rfl (vecvE (by first | rfl | simp)) zd)) k1))))
  refine zav (j := 21) h rfl (fun g76 h => ?_) (fun g76 h => ?_)
  ·refine rvt 21 rfl rfl rfl g76 (zq rfl) (rvt 21 rfl rfl rfl g76 (zq rfl) (rvt 21 rfl rfl rfl g76 (zq rfl) (zb h fun y77 hy77 h => rvt 21 rfl rfl rfl g76 (zeR (α := Int) sl22 rfl rfl hy77) (rvt 21 rfl rfl rfl g76 (zeQ ty3 rfl zcA) (rvt 21 rfl rfl rfl g76 (zq rfl) (rvt 21 rfl rfl rfl g76 (zq rfl) (zz h fun q78 h => ?_)))))))
   refine rvt 21 rfl rfl rfl g76 (zaL rfl rfl q78) (zb h fun y79 hy79 h => rvt 21 rfl rfl rfl g76 (zeR (α := Int) sl22 rfl rfl hy79) (rvt 21 rfl rfl rfl g76 (zeQ ty3 rfl zcA) (zb h fun y80 hy80 h => zeP rfl rfl rfl (dj := 21) rfl g76 (zeV rfl (s2 rfl rfl) (zc9 hy80) hT .nil (fun R H' hR => ?_)))))
   obtain ⟨rfl, rfl⟩ := hR
   exact rvt 21 rfl rfl rfl g76 (zai rfl rfl) (zp rfl (zs rfl g76 rfl) (hJ75 _ () h _ (ji 13 34 rfl rfl rfl)))
  refine rpv 21 rfl rfl rfl g76 (rpv 21 rfl rfl rfl g76 (rpv 21 rfl rfl rfl g76 (rpv 21 rfl rfl rfl g76 (rpv 21 rfl rfl rfl g76 (rpv 21 rfl rfl rfl g76 (rpv 21 rfl rfl rfl g76 (rpv 21 rfl rfl rfl g76 (rpv 21 rfl rfl rfl g76 ?_))))))))
  exact rpv 21 rfl rfl rfl g76 (zb6 rfl rfl (dj := 21) rfl g76 (rpv 21 rfl rfl rfl g76 (zp rfl (zr rfl g76 rfl) (hJ75 _ () h _ (ji 13 34 rfl rfl rfl)))))
 refine zae (zU (eL3 _ _ (zF (zam .nil k1 ?_))))
 cases h
 exact ⟨rfl, rfl⟩


theorem zbU : ∀ {zaf : (List Int)} {a_a : Int} {a_b : Int} {a_n_ : Int} {zR : GTab} {zau : GTyp} {zD : Vt} {r : (List Int)}, zba zaf a_a a_b a_n_ zR zau = some r → Ctr Tryd.prog 122 [vecv zD (zaf.length), isv (a_a), isv (a_b), isv (a_n_), clov 39 [immv (zR), immv (zau)]] [vecE zD (zaf : List Int)] (fun R H => R = oneOf [] ∧ H = [vecE zD (r)]) := by
 intro zaf a_a a_b a_n_ zR zau zD r h
 unfold zba at h
 refine zu Tryd.func122 rfl fun w0 S0 hT => wsr (oA rfl (rnf (zt (zaQ (ι := (List Int) × Int) (γ := Unit) (fun q1 g1 => [(10, isv (q1.2)), (0, vecv zD (q1.1.length))]) (fun q1 g1 => [vecE zD (q1.1 : List Int)]) h () (za (j := 10) rfl hI (za (j := 0) rfl (vecvE (by first | rfl | simp)) zd)) k1 (fun L2 q1 g1 Q42 h hL2 eL2 rL2 => ?_)))))
 refine zj (wsr (oM rfl (oM rfl (oV (zai rfl rfl) (rnf (zg h rfl (fun _ h => ?_) (fun _ h => ?_)))))))
 ·refine wkf (zj (zt (zS (.v 0 (.v 1 (.v 2 (.v 3 (.v 4 (.v 5 (.v 6 (.v 7 (.v 8 (.v 9 (.v 10 (.v 11 (.v 12 (.v 14 (.v 15 (.v 16 (.v 17 (.v 18 (.alt 13 (.t 19 (.v 20 (.t 21 (.v 22 (.t 23 .nil))))) (.t 19 (.t 13 (.v 20 (.t 21 (.v 22 (.t 23 .nil))))))))))))))))))))))))) moOrd (by kernel_rfl) ?_)))
  refine rvm rfl rfl (rvm rfl rfl (rvm rfl rfl (zz h fun q29 h => zp rfl (zaa rfl rfl q29) (rvm rfl rfl (rvm rfl rfl (rvm rfl rfl (zz h fun q30 h => ?_)))))))
  refine zp rfl (zaa rfl rfl q30) (rvm rfl rfl (rvm rfl rfl (rvm rfl rfl (zz h fun q31 h => zp rfl (zaa rfl rfl q31) (zI h fun q32 h => zp rfl (zan (α := Int) sl22 rfl rfl q32.1 q32.2) (rvm rfl rfl ?_))))))
  refine rvm rfl rfl (rvm rfl rfl (zz h fun q33 h => zp rfl (zaa rfl rfl q33) (zI h fun q34 h => zp rfl (zan (α := Int) sl22 rfl rfl q34.1 q34.2) (zb h fun y35 hy35 h => zb h fun y36 hy36 h => zI h fun q37 h => ?_))))
  refine zb h fun y38 hy38 h => zI h fun q39 h => zb h fun y40 hy40 h => zz h fun q41 h => zbw ?_ ?_
  ·refine zT rfl rfl (zax ty3 rfl .here hy35 ?_)
   refine zT rfl rfl (zax ty3 rfl .here hy36 ?_)
   refine zp rfl (zan (α := Int) sl22 rfl rfl q37.1 q37.2) (zT rfl rfl (zat ty3 rfl rfl .here hy38 (zp rfl (zan (α := Int) sl22 rfl rfl q39.1 q39.2) (zT rfl rfl (zat ty3 rfl rfl .here hy40 (zac (zi (zy (zh (oM rfl ?_))))))))))
   exact oV (zaa rfl rfl q41) (oA rfl (zx (hL2 _ () h _ (ze 30 rfl rfl (za (j := 10) rfl hI (za (j := 0) rfl (vecvE (by first | rfl | simp)) zd)) k1))))
  refine zT rfl rfl (zax ty3 rfl .here hy36 ?_)
  refine zT rfl rfl (zax ty3 rfl .here hy35 ?_)
  refine zp rfl (zan (α := Int) sl22 rfl rfl q37.1 q37.2) (zT rfl rfl (zat ty3 rfl rfl .here hy38 (zp rfl (zan (α := Int) sl22 rfl rfl q39.1 q39.2) (zT rfl rfl (zat ty3 rfl rfl .here hy40 (zac (zi (zy (zh (oM rfl ?_))))))))))
  exact oV (zaa rfl rfl q41) (oA rfl (zx (hL2 _ () h _ (ze 30 rfl rfl (za (j := 10) rfl hI (za (j := 0) rfl (vecvE (by first | rfl | simp)) zd)) k1))))
 refine zae (zU (eL2 _ _ (zF (zam .nil k1 ?_))))
 cases h
 exact ⟨rfl, rfl⟩


theorem zfi : ∀ {zaf : (List Int)} {a_a : Int} {a_m : Int} {a_b : Int} {zR : GTab} {zau : GTyp} {zD : Vt} {r : (List Int)}, zcy zaf a_a a_m a_b zR zau = some r → Ctr Tryd.prog 115 [vecv zD (zaf.length), isv (a_a), isv (a_m), isv (a_b), clov 39 [immv (zR), immv (zau)]] [vecE zD (zaf : List Int)] (fun R H => R = oneOf [] ∧ H = [vecE zD (r)]) := by
 intro zaf a_a a_m a_b zR zau zD r h
 unfold zcy at h
 refine zu Tryd.func115 rfl fun w0 S0 hT => wsr (oM rfl (oM rfl (zz h fun q1 h => oV (zaL rfl rfl q1) (oA rfl (rnf (wsr ?_))))))
 refine oM rfl (oM rfl (zz h fun q2 h => oV (zaL rfl rfl q2) (oA rfl (rnf (zj (zt (zaQ (ι := (List Int) × Int × Int) (γ := Unit) (fun q3 g3 => [(10, isv (q3.2.1)), (11, isv (q3.2.2)), (0, vecv zD (q3.1.length))]) (fun q3 g3 => [vecE zD (q3.1 : List Int)]) h () (za (j := 10) rfl hI (za (j := 11) rfl hI (za (j := 0) rfl (vecvE (by first | rfl | simp)) zd))) k1 (fun L4 q3 g3 Q31 h hL4 eL4 rL4 => ?_))))))))
 refine zj (wsr (oM rfl (oM rfl (oV (zbP rfl rfl) (rnf (zg h rfl (fun _ h => ?_) (fun _ h => ?_)))))))
 ·refine wkf (zt (wsr (oM rfl (oM rfl (oV (zbu rfl rfl) (rnf (zg h rfl (fun _ h => ?_) (fun _ h => ?_))))))))
  ·refine wsr (oM rfl (oM rfl (oM rfl (zz h fun q18 h => oV (zaL rfl rfl q18) (oM rfl (oM rfl (oM rfl ?_)))))))
   refine zb h fun y19 hy19 h => oT (zA (zbU hy19) hT (.cons rfl (fun _ _ h => vecvE (by first | rfl | simp) _ _ h) (s4 rfl rfl rfl rfl)) k1 ?_)
   refine zI h fun q20 h => zQ (zY 0 rfl (vecvE q20.symm)) (zQ (zY 24 rfl (vecvE q20.symm)) (rnf (zh (oM rfl (oM rfl (zz h fun q21 h => oV (zaL rfl rfl q21) ?_))))))
   exact oA rfl (zx (zi (hL4 _ () h _ (ze 23 rfl rfl (za (j := 10) rfl hI (za (j := 11) rfl hI (za (j := 0) rfl (vecvE (by first | rfl | simp)) zd))) k1))))
  refine wsr (oM rfl (oM rfl (oM rfl (zz h fun q22 h => oV (zaL rfl rfl q22) (oM rfl (oM rfl (zz h fun q23 h => ?_)))))))
  refine oV (zaa rfl rfl q23) (oM rfl (zz h fun q24 h => oV (zaL rfl rfl q24) (oM rfl (oM rfl (zb h fun y25 hy25 h => oT (zA (zbU hy25) hT (.cons rfl (fun _ _ h => vecvE (by first | rfl | simp) _ _ h) (s4 rfl rfl rfl rfl)) k1 ?_))))))
  refine zI h fun q26 h => zQ (zY 0 rfl (vecvE q26.symm)) (zQ (zY 35 rfl (vecvE q26.symm)) (rnf (zh (oM rfl (oM rfl (zz h fun q27 h => oV (zaL rfl rfl q27) ?_))))))
  exact oA rfl (zx (zi (hL4 _ () h _ (ze 27 rfl rfl (za (j := 10) rfl hI (za (j := 11) rfl hI (za (j := 0) rfl (vecvE (by first | rfl | simp)) zd))) k1))))
 refine zae (zU (eL4 _ _ (zF (zy (zh (oM rfl (oM rfl (oM rfl ?_))))))))
 refine zz h fun q28 h => oV (zaL rfl rfl q28) (oM rfl (oM rfl (oM rfl (zb h fun y29 hy29 h => oT (zA (zbU hy29) hT (.cons rfl (fun _ _ h => vecvE (by first | rfl | simp) _ _ h) (s4 rfl rfl rfl rfl)) k1 ?_)))))
 refine zI h fun q30 h => zQ (zY 0 rfl (vecvE q30.symm)) (zQ (zY 50 rfl (vecvE q30.symm)) (zx (zam .nil k1 ?_)))
 cases h
 exact ⟨rfl, rfl⟩


def zb1 (f' : (List Int) → Int → Int → Int → GTab → GTyp → Option ((List Int))) : Prop :=
 ∀ {zaf : (List Int)} {a_a : Int} {a_m : Int} {a_b : Int} {zR : GTab} {zau : GTyp} {zD : Vt} {r : (List Int)}, f' zaf a_a a_m a_b zR zau = some r → Ctr Tryd.prog 107 [vecv zD (zaf.length), isv (a_a), isv (a_m), isv (a_b), clov 39 [immv (zR), immv (zau)]] [vecE zD (zaf : List Int)] (fun R H => R = oneOf [] ∧ H = [vecE zD (r)])
theorem zeA {zbb : (List Int) → Int → Int → Int → GTab → GTyp → Option ((List Int))} (zc0 : zb1 zbb) : ∀ {zaf : (List Int)} {a_a : Int} {a_m : Int} {a_b : Int} {zR : GTab} {zau : GTyp} {zD : Vt} {r : (List Int)}, zb0 zbb zaf a_a a_m a_b zR zau = some r → Ctr Tryd.prog 107 [vecv zD (zaf.length), isv (a_a), isv (a_m), isv (a_b), clov 39 [immv (zR), immv (zau)]] [vecE zD (zaf : List Int)] (fun R H => R = oneOf [] ∧ H = [vecE zD (r)]) := by
 intro zaf a_a a_m a_b zR zau zD r h
 unfold zb0 at h
 refine zu Tryd.func107 rfl fun w0 S0 hT => zj (wsr (oM rfl (oM rfl (zz h fun q1 h => oV (zaL rfl rfl q1) (oV (zao rfl rfl) (rnf ?_))))))
 refine zg h rfl (fun _ h => ?_) (fun _ h => ?_)
 ·refine wsr (oM rfl (oA rfl (rnf (wsr (oM rfl (oA rfl (rnf (zj ?_))))))))
  refine zt (zaQ (ι := (List Int) × Int × Int) (γ := Unit) (fun q2 g2 => [(10, isv (q2.2.1)), (11, isv (q2.2.2)), (0, vecv zD (q2.1.length))]) (fun q2 g2 => [vecE zD (q2.1 : List Int)]) h () (za (j := 10) rfl hI (za (j := 11) rfl hI (za (j := 0) rfl (vecvE (by first | rfl | simp)) zd))) k1 (fun L3 q2 g2 Q145 h hL3 eL3 rL3 => ?_))
  refine zj (wsr (oM rfl (oM rfl (oV (zai rfl rfl) (rnf (zg h rfl (fun _ h => ?_) (fun _ h => ?_)))))))
  ·refine wkf (zt (wsr (oM rfl (oM rfl (zz h fun q98 h => oV (zaa rfl rfl q98) (oV (zic Tryd.underlying3 Tryd.underlying24 rfl) (oV (zfq (q := (1 : UInt64)) rfl rfl (by decide)) ?_)))))))
   refine zz h fun q99 h => oV (zfC Tryd.underlying24 Tryd.underlying3 rfl q99) (oA rfl (rnf (zj (zgF 0 .here rfl (by first | rfl | simp) (fun o100 hn101 => ?_)))))
   refine zS (.v 0 (.v 1 (.v 2 (.v 3 (.v 4 (.v 5 (.v 6 (.v 7 (.v 8 (.t 9 (.v 10 .nil))))))))))) moOrd (by kernel_rfl) ?_
   refine rvm rfl rfl (rvm rfl rfl (rvm rfl rfl (zb h fun y102 hy102 h => zp rfl (zeR (α := Int) sl22 rfl rfl hy102) (zp rfl (zeQ ty3 rfl zcA) (rvm rfl rfl (rvm rfl rfl (zb h fun y103 hy103 h => ?_)))))))
   refine zp rfl (zeR (α := Int) sl22 rfl rfl hy103) (zp rfl (zeQ ty3 rfl zcA) (zb h fun y104 hy104 h => zT rfl rfl (zeV rfl (s2 rfl rfl) (zc9 hy104) hT .nil (fun R H' hR => ?_))))
   obtain ⟨rfl, rfl⟩ := hR
   refine zp rfl (zai rfl rfl) (zac (zdf 0 hn101 rfl (zy (zg h rfl (fun _ h => ?_) (fun _ h => ?_)))))
   ·exact zh (oM rfl (zz h fun q105 h => oV (zaa rfl rfl q105) (oA rfl (zx (zi (hL3 _ () h _ (ze 29 rfl rfl (za (j := 10) rfl hI (za (j := 11) rfl hI (za (j := 0) rfl (vecvE (by first | rfl | simp)) zd))) k1)))))))
   exact zh (oM rfl (oA rfl (zx (zi (hL3 _ () h _ (ze 28 rfl rfl (za (j := 10) rfl hI (za (j := 11) rfl hI (za (j := 0) rfl (vecvE (by first | rfl | simp)) zd))) k1))))))
  refine zae (zU (eL3 _ _ (zF (zy (zj (wsr (oM rfl (oA rfl ?_))))))))
  refine rnf (zt (zaQ (ι := (List Int) × Int) (γ := Unit) (fun q106 g106 => [(13, isv (q106.2)), (0, vecv zD (q106.1.length))]) (fun q106 g106 => [vecE zD (q106.1 : List Int)]) h () (za (j := 13) rfl hI (za (j := 0) rfl (vecvE (by first | rfl | simp)) zd)) k1 (fun L107 q106 g106 Q144 h hL107 eL107 rL107 => ?_)))
  refine zj (wsr (oM rfl (oM rfl (zz h fun q132 h => oV (zaL rfl rfl q132) (oV (zai rfl rfl) (rnf (zg h rfl (fun _ h => ?_) (fun _ h => ?_))))))))
  ·refine wkf (zj (zt (zS (.v 0 (.v 1 (.v 2 (.v 3 (.v 4 (.v 5 (.v 6 (.v 7 (.v 8 (.v 10 (.v 11 (.v 12 (.alt 9 (.t 13 (.v 14 (.t 15 (.v 16 (.t 17 .nil))))) (.t 13 (.t 9 (.v 14 (.t 15 (.v 16 (.t 17 .nil))))))))))))))))))) moOrd (by kernel_rfl) ?_)))
   refine rvm rfl rfl (rvm rfl rfl (rvm rfl rfl (rvm rfl rfl (zz h fun q133 h => zp rfl (zaa rfl rfl q133) (rvm rfl rfl (rvm rfl rfl (zz h fun q134 h => ?_)))))))
   refine zp rfl (zaa rfl rfl q134) (zI h fun q135 h => zp rfl (zan (α := Int) sl22 rfl rfl q135.1 q135.2) (rvm rfl rfl (rvm rfl rfl (zI h fun q136 h => zp rfl (zan (α := Int) sl22 rfl rfl q136.1 q136.2) (zb h fun y137 hy137 h => zb h fun y138 hy138 h => ?_)))))
   refine zI h fun q139 h => zb h fun y140 hy140 h => zI h fun q141 h => zb h fun y142 hy142 h => zz h fun q143 h => zbw ?_ ?_
   ·refine zT rfl rfl (zax ty3 rfl .here hy137 ?_)
    refine zT rfl rfl (zax ty3 rfl .here hy138 ?_)
    refine zp rfl (zan (α := Int) sl22 rfl rfl q139.1 q139.2) (zT rfl rfl (zat ty3 rfl rfl .here hy140 (zp rfl (zan (α := Int) sl22 rfl rfl q141.1 q141.2) (zT rfl rfl (zat ty3 rfl rfl .here hy142 (zac (zi (zy (zh (oM rfl ?_))))))))))
    exact oV (zaa rfl rfl q143) (oA rfl (zx (hL107 _ () h _ (ze 25 rfl rfl (za (j := 13) rfl hI (za (j := 0) rfl (vecvE (by first | rfl | simp)) zd)) k1))))
   refine zT rfl rfl (zax ty3 rfl .here hy138 ?_)
   refine zT rfl rfl (zax ty3 rfl .here hy137 ?_)
   refine zp rfl (zan (α := Int) sl22 rfl rfl q139.1 q139.2) (zT rfl rfl (zat ty3 rfl rfl .here hy140 (zp rfl (zan (α := Int) sl22 rfl rfl q141.1 q141.2) (zT rfl rfl (zat ty3 rfl rfl .here hy142 (zac (zi (zy (zh (oM rfl ?_))))))))))
   exact oV (zaa rfl rfl q143) (oA rfl (zx (hL107 _ () h _ (ze 25 rfl rfl (za (j := 13) rfl hI (za (j := 0) rfl (vecvE (by first | rfl | simp)) zd)) k1))))
  refine zae (zU (eL107 _ _ (zF (zy (zK (zB ?_))))))
  cases h
  exact zo .nil k1 ⟨rfl, rfl⟩
 refine wkf (zj (wsr (oM rfl (oM rfl (zz h fun q146 h => oV (zaL rfl rfl q146) (oV (zao rfl rfl) (rnf ?_)))))))
 refine zg h rfl (fun _ h => ?_) (fun _ h => ?_)
 ·refine wsr (oM rfl (oA rfl (rnf (wsr (oM rfl (oA rfl (rnf (zj ?_))))))))
  refine zt (zaQ (ι := (List Int) × Int × Int) (γ := Unit) (fun q147 g147 => [(14, isv (q147.2.1)), (15, isv (q147.2.2)), (0, vecv zD (q147.1.length))]) (fun q147 g147 => [vecE zD (q147.1 : List Int)]) h () (za (j := 14) rfl hI (za (j := 15) rfl hI (za (j := 0) rfl (vecvE (by first | rfl | simp)) zd))) k1 (fun L148 q147 g147 Q281 h hL148 eL148 rL148 => ?_))
  refine zj (wsr (oM rfl (oM rfl (oV (zai rfl rfl) (rnf (zg h rfl (fun _ h => ?_) (fun _ h => ?_)))))))
  ·refine wkf (zt (wsr (oM rfl (oM rfl (zz h fun q237 h => oV (zaa rfl rfl q237) (oV (zic Tryd.underlying3 Tryd.underlying24 rfl) (oV (zfq (q := (1 : UInt64)) rfl rfl (by decide)) ?_)))))))
   refine zz h fun q238 h => oV (zfC Tryd.underlying24 Tryd.underlying3 rfl q238) (oA rfl (rnf (zj (zgF 0 .here rfl (by first | rfl | simp) (fun o239 hn240 => ?_)))))
   refine zS (.v 0 (.v 1 (.v 2 (.v 3 (.v 4 (.v 5 (.v 6 (.v 7 (.v 8 (.t 9 (.v 10 (.v 11 .nil)))))))))))) moOrd (by kernel_rfl) ?_
   refine rvm rfl rfl (rvm rfl rfl (rvm rfl rfl (zb h fun y241 hy241 h => zp rfl (zeR (α := Int) sl22 rfl rfl hy241) (zp rfl (zeQ ty3 rfl zcA) (rvm rfl rfl (rvm rfl rfl (zb h fun y242 hy242 h => ?_)))))))
   refine zp rfl (zeR (α := Int) sl22 rfl rfl hy242) (zp rfl (zeQ ty3 rfl zcA) (zb h fun y243 hy243 h => zT rfl rfl (zeV rfl (s2 rfl rfl) (zc9 hy243) hT .nil (fun R H' hR => ?_))))
   obtain ⟨rfl, rfl⟩ := hR
   refine zp rfl (zai rfl rfl) (zp rfl (zbt rfl) (zac (zdf 0 hn240 rfl (zy (zg h rfl (fun _ h => ?_) (fun _ h => ?_))))))
   ·exact zh (oM rfl (zz h fun q244 h => oV (zaa rfl rfl q244) (oA rfl (zx (zi (hL148 _ () h _ (ze 30 rfl rfl (za (j := 14) rfl hI (za (j := 15) rfl hI (za (j := 0) rfl (vecvE (by first | rfl | simp)) zd))) k1)))))))
   exact zh (oM rfl (oA rfl (zx (zi (hL148 _ () h _ (ze 29 rfl rfl (za (j := 14) rfl hI (za (j := 15) rfl hI (za (j := 0) rfl (vecvE (by first | rfl | simp)) zd))) k1))))))
  refine zae (zU (eL148 _ _ (zF (zy (zj (wsr (oM rfl (oA rfl ?_))))))))
  refine rnf (zt (zaQ (ι := (List Int) × Int) (γ := Unit) (fun q245 g245 => [(17, isv (q245.2)), (0, vecv zD (q245.1.length))]) (fun q245 g245 => [vecE zD (q245.1 : List Int)]) h () (za (j := 17) rfl hI (za (j := 0) rfl (vecvE (by first | rfl | simp)) zd)) k1 (fun L246 q245 g245 Q280 h hL246 eL246 rL246 => ?_)))
  refine zj (wsr (oM rfl (oM rfl (oV (zbu rfl rfl) (rnf (zg h rfl (fun _ h => ?_) (fun _ h => ?_)))))))
  ·refine wkf (zj (zt (zS (.v 0 (.v 1 (.v 2 (.v 3 (.v 4 (.v 5 (.v 6 (.v 7 (.v 8 (.v 10 (.v 11 (.v 12 (.alt 9 (.t 13 (.v 14 (.t 15 (.v 16 (.t 17 .nil))))) (.t 13 (.t 9 (.v 14 (.t 15 (.v 16 (.t 17 .nil))))))))))))))))))) moOrd (by kernel_rfl) ?_)))
   refine rvm rfl rfl (rvm rfl rfl (rvm rfl rfl (rvm rfl rfl (zz h fun q269 h => zp rfl (zaL rfl rfl q269) (rvm rfl rfl (rvm rfl rfl (zz h fun q270 h => ?_)))))))
   refine zp rfl (zaL rfl rfl q270) (zI h fun q271 h => zp rfl (zan (α := Int) sl22 rfl rfl q271.1 q271.2) (rvm rfl rfl (rvm rfl rfl (zI h fun q272 h => zp rfl (zan (α := Int) sl22 rfl rfl q272.1 q272.2) (zb h fun y273 hy273 h => zb h fun y274 hy274 h => ?_)))))
   refine zI h fun q275 h => zb h fun y276 hy276 h => zI h fun q277 h => zb h fun y278 hy278 h => zz h fun q279 h => zbw ?_ ?_
   ·refine zT rfl rfl (zax ty3 rfl .here hy273 ?_)
    refine zT rfl rfl (zax ty3 rfl .here hy274 ?_)
    refine zp rfl (zan (α := Int) sl22 rfl rfl q275.1 q275.2) (zT rfl rfl (zat ty3 rfl rfl .here hy276 (zp rfl (zan (α := Int) sl22 rfl rfl q277.1 q277.2) (zT rfl rfl (zat ty3 rfl rfl .here hy278 (zac (zi (zy (zh (oM rfl ?_))))))))))
    exact oV (zaL rfl rfl q279) (oA rfl (zx (hL246 _ () h _ (ze 24 rfl rfl (za (j := 17) rfl hI (za (j := 0) rfl (vecvE (by first | rfl | simp)) zd)) k1))))
   refine zT rfl rfl (zax ty3 rfl .here hy274 ?_)
   refine zT rfl rfl (zax ty3 rfl .here hy273 ?_)
   refine zp rfl (zan (α := Int) sl22 rfl rfl q275.1 q275.2) (zT rfl rfl (zat ty3 rfl rfl .here hy276 (zp rfl (zan (α := Int) sl22 rfl rfl q277.1 q277.2) (zT rfl rfl (zat ty3 rfl rfl .here hy278 (zac (zi (zy (zh (oM rfl ?_))))))))))
   exact oV (zaL rfl rfl q279) (oA rfl (zx (hL246 _ () h _ (ze 24 rfl rfl (za (j := 17) rfl hI (za (j := 0) rfl (vecvE (by first | rfl | simp)) zd)) k1))))
  refine zae (zU (eL246 _ _ (zF (zy (zK (zB ?_))))))
  cases h
  exact zo .nil k1 ⟨rfl, rfl⟩
 refine wkf (wsr (oM rfl (oM rfl (zz h fun q282 h => oV (zaa rfl rfl q282) (oV (zic Tryd.underlying3 Tryd.underlying24 rfl) (oV (zfq (q := (1 : UInt64)) rfl rfl (by decide)) ?_))))))
 refine zz h fun q283 h => oV (zfC Tryd.underlying24 Tryd.underlying3 rfl q283) (oA rfl (rnf (wsr (oM rfl (oM rfl (zz h fun q284 h => oV (zaa rfl rfl q284) ?_))))))
 refine oA rfl (rnf (wsr (oA rfl (oA rfl (rnf (zj (wsr (oM rfl ?_))))))))
 refine oM rfl (oV (zbu rfl rfl) (rnf (zdx (ι := Int × Int) (γ := Unit) (fun q285 g285 => [(20, isv (q285.1)), (21, isv (q285.2))]) (fun q285 g285 => []) .nil h (fun q285 g285 h => ?_) (fun J286 h hJ286 => ?_))))
 ·refine wsr (oM rfl (zz h fun q288 h => oV (zaL rfl rfl q288) (oA rfl (rnf (zj (zt (zaQ (ι := (List Int) × Int × Int) (γ := Unit) (fun q289 g289 => [(20, isv (q289.2.1)), (21, isv (q289.2.2)), (0, vecv zD (q289.1.length))]) (fun q289 g289 => [vecE zD (q289.1 : List Int)]) h () (za (j := 20) rfl hI (za (j := 21) rfl hI (za (j := 0) rfl (vecvE (by first | rfl | simp)) zd))) k1 (fun L290 q289 g289 Q378 h hL290 eL290 rL290 => ?_))))))))
  refine zj (wsr (oM rfl (oM rfl (oV (zai rfl rfl) (rnf (zg h rfl (fun _ h => ?_) (fun _ h => ?_)))))))
  ·refine wkf (zt (wsr (oM rfl (oM rfl (zz h fun q349 h => oV (zaa rfl rfl q349) (oV (zic Tryd.underlying3 Tryd.underlying24 rfl) (oV (zfq (q := (1 : UInt64)) rfl rfl (by decide)) ?_)))))))
   refine zz h fun q350 h => oV (zfC Tryd.underlying24 Tryd.underlying3 rfl q350) (oA rfl (rnf (zj (zgF 0 .here rfl (by first | rfl | simp) (fun o351 hn352 => ?_)))))
   refine zS (.v 0 (.v 1 (.v 2 (.v 3 (.v 4 (.v 5 (.v 6 (.v 7 (.v 8 (.v 9 (.v 10 (.t 11 (.v 12 (.v 13 .nil)))))))))))))) moOrd (by kernel_rfl) ?_
   refine rvm rfl rfl (rvm rfl rfl (rvm rfl rfl (rvm rfl rfl (zz h fun q353 h => zp rfl (zaL rfl rfl q353) (zb h fun y354 hy354 h => zp rfl (zeR (α := Int) sl22 rfl rfl hy354) (zp rfl (zeQ ty3 rfl zcA) ?_))))))
   refine rvm rfl rfl (rvm rfl rfl (zb h fun y355 hy355 h => zp rfl (zeR (α := Int) sl22 rfl rfl hy355) (zp rfl (zeQ ty3 rfl zcA) (zb h fun y356 hy356 h => zT rfl rfl (zeV rfl (s2 rfl rfl) (zc9 hy356) hT .nil (fun R H' hR => ?_))))))
   obtain ⟨rfl, rfl⟩ := hR
   refine zp rfl (zai rfl rfl) (zp rfl (zbt rfl) (zac (zdf 0 hn352 rfl (zy (zg h rfl (fun _ h => ?_) (fun _ h => ?_))))))
   ·exact zh (oM rfl (zz h fun q357 h => oV (zaa rfl rfl q357) (oA rfl (zx (zi (hL290 _ () h _ (ze 32 rfl rfl (za (j := 20) rfl hI (za (j := 21) rfl hI (za (j := 0) rfl (vecvE (by first | rfl | simp)) zd))) k1)))))))
   exact zh (oM rfl (oA rfl (zx (zi (hL290 _ () h _ (ze 31 rfl rfl (za (j := 20) rfl hI (za (j := 21) rfl hI (za (j := 0) rfl (vecvE (by first | rfl | simp)) zd))) k1))))))
  refine zae (zU (eL290 _ _ (zF (zy (wsr (oM rfl (oM rfl (zz h fun q358 h => ?_))))))))
  refine oV (zaL rfl rfl q358) (oA rfl (rnf (zj (wsr (oM rfl (oM rfl (oV (zai rfl rfl) (oM rfl ?_))))))))
  refine zaz (jb 185) je .nil h 4 rfl (fun q359 g359 h => ?_) (fun J360 h hJ360 => ?_)
  ·refine rnf (zdx (ι := (List Int)) (γ := Unit) (fun q362 g362 => [(0, vecv zD (q362.length))]) (fun q362 g362 => [vecE zD (q362 : List Int)]) k1 h (fun q362 g362 h => ?_) (fun J363 h hJ363 => ?_))
   ·refine zj (wsr (oM rfl (oM rfl (oV (zai rfl rfl) (oM rfl (zaz (jb 199) je .nil h 4 rfl (fun q366 g366 h => ?_) (fun J367 h hJ367 => ?_)))))))
    ·refine rnf (zdx (ι := (List Int)) (γ := Unit) (fun q369 g369 => [(0, vecv zD (q369.length))]) (fun q369 g369 => [vecE zD (q369 : List Int)]) k1 h (fun q369 g369 h => ?_) (fun J370 h hJ370 => ?_))
     ·refine wsr (oM rfl (oM rfl (oV (zai rfl rfl) (oM rfl (zaz (jb 213) je .nil h 4 rfl (fun q373 g373 h => ?_) (fun J374 h hJ374 => ?_))))))
      ·refine rnf (zg h rfl (fun _ h => ?_) (fun _ h => ?_))
       ·refine zh (oM rfl (oM rfl (oM rfl (oM rfl (oM rfl (zb h fun y376 hy376 h => oT (zA (zc0 hy376) hT (.cons rfl (fun _ _ h => vecvE (by first | rfl | simp) _ _ h) (s4 rfl rfl rfl rfl)) k1 ?_)))))))
        refine zI h fun q377 h => zQ (zY 0 rfl (vecvE q377.symm)) (zQ (zY 214 rfl (vecvE q377.symm)) (zx (zam .nil k1 ?_)))
        cases h
        exact ⟨rfl, rfl⟩
       refine zab (zam .nil k1 ?_)
       cases h
       exact ⟨rfl, rfl⟩
      refine zC (j := 209) h rfl (fun g375 h => ?_) (fun g375 h => ?_)
      ·exact oK 209 rfl rfl rfl g375 (zq rfl) (oK 209 rfl rfl rfl g375 (zq rfl) (oK 209 rfl rfl rfl g375 (zai rfl rfl) (oV (zs rfl g375 rfl) (hJ374 _ () h _ (jk 4 213 rfl rfl rfl)))))
      exact oP 209 rfl rfl g375 (oP 209 rfl rfl g375 (oP 209 rfl rfl g375 (oV (zr rfl g375 rfl) (hJ374 _ () h _ (jk 4 213 rfl rfl rfl)))))
     refine zg h rfl (fun _ h => ?_) (fun _ h => ?_)
     ·refine zh (oM rfl (oM rfl (oM rfl (oM rfl (oM rfl (zb h fun y371 hy371 h => oT (zA (zc0 hy371) hT (.cons rfl (fun _ _ h => vecvE (by first | rfl | simp) _ _ h) (s4 rfl rfl rfl rfl)) k1 ?_)))))))
      exact zI h fun q372 h => zQ (zY 0 rfl (vecvE q372.symm)) (zQ (zY 200 rfl (vecvE q372.symm)) (zx (hJ370 _ () h _ (ze 8 rfl rfl (za (j := 0) rfl (vecvE (by first | rfl | simp)) zd) k1))))
     exact zab (hJ370 _ () h _ (ze 0 rfl rfl (za (j := 0) rfl (vecvE (by first | rfl | simp)) zd) k1))
    refine zC (j := 195) h rfl (fun g368 h => ?_) (fun g368 h => ?_)
    ·exact oK 195 rfl rfl rfl g368 (zq rfl) (oK 195 rfl rfl rfl g368 (zq rfl) (oK 195 rfl rfl rfl g368 (zai rfl rfl) (oV (zs rfl g368 rfl) (hJ367 _ () h _ (jk 4 199 rfl rfl rfl)))))
    exact oP 195 rfl rfl g368 (oP 195 rfl rfl g368 (oP 195 rfl rfl g368 (oV (zr rfl g368 rfl) (hJ367 _ () h _ (jk 4 199 rfl rfl rfl)))))
   refine zg h rfl (fun _ h => ?_) (fun _ h => ?_)
   ·refine zh (oM rfl (oM rfl (oM rfl (oM rfl (oM rfl (zb h fun y364 hy364 h => oT (zA (zfi hy364) hT (.cons rfl (fun _ _ h => vecvE (by first | rfl | simp) _ _ h) (s4 rfl rfl rfl rfl)) k1 ?_)))))))
    exact zI h fun q365 h => zQ (zY 0 rfl (vecvE q365.symm)) (zQ (zY 186 rfl (vecvE q365.symm)) (zx (hJ363 _ () h _ (ze 8 rfl rfl (za (j := 0) rfl (vecvE (by first | rfl | simp)) zd) k1))))
   exact zab (hJ363 _ () h _ (ze 0 rfl rfl (za (j := 0) rfl (vecvE (by first | rfl | simp)) zd) k1))
  refine zC (j := 181) h rfl (fun g361 h => ?_) (fun g361 h => ?_)
  ·exact oK 181 rfl rfl rfl g361 (zq rfl) (oK 181 rfl rfl rfl g361 (zq rfl) (oK 181 rfl rfl rfl g361 (zai rfl rfl) (oV (zs rfl g361 rfl) (hJ360 _ () h _ (jk 4 185 rfl rfl rfl)))))
  exact oP 181 rfl rfl g361 (oP 181 rfl rfl g361 (oP 181 rfl rfl g361 (oV (zr rfl g361 rfl) (hJ360 _ () h _ (jk 4 185 rfl rfl rfl)))))
 refine zg h rfl (fun _ h => ?_) (fun _ h => ?_)
 ·refine wsr (oM rfl (oM rfl (zz h fun q287 h => oV (zaL rfl rfl q287) (oA rfl (rnf (zh (oM rfl ?_)))))))
  exact oA rfl (zx (hJ286 _ () h _ (ze 6 rfl rfl (za (j := 20) rfl hI (za (j := 21) rfl hI zd)) k1)))
 exact wsr (oM rfl (oA rfl (rnf (zh (oM rfl (oA rfl (zx (hJ286 _ () h _ (ze 4 rfl rfl (za (j := 20) rfl hI (za (j := 21) rfl hI zd)) k1)))))))))

theorem zcn : ∀ n, zb1 (zaU n)
 | 0 => fun h => (by cases h)
 | n + 1 => zeA (zcn n)
theorem zc1 (n : Nat) : zb1 (zaU n) := (zcn n)

theorem ze9 : ∀ {zaf : (List Int)} {a_n_ : Int} {zR : GTab} {zau : GTyp} {zD : Vt} {r : (List Int)}, zbR zaf a_n_ zR zau = some r → Ctr Tryd.prog 93 [vecv zD (zaf.length), isv (a_n_), clov 39 [immv (zR), immv (zau)]] [vecE zD (zaf : List Int)] (fun R H => R = oneOf [] ∧ H = [vecE zD (r)]) := by
 intro zaf a_n_ zR zau zD r h
 unfold zbR at h
 refine zu Tryd.func93 rfl fun w0 S0 hT => wsr (oA rfl (rnf (wsr (oM rfl (oA rfl (oA rfl (rnf ?_)))))))
 refine zj (zt (zaQ (ι := (List Int) × Int × Int) (γ := Unit) (fun q1 g1 => [(7, isv (q1.2.1)), (8, isv (q1.2.2)), (0, vecv zD (q1.1.length))]) (fun q1 g1 => [vecE zD (q1.1 : List Int)]) h () (za (j := 7) rfl hI (za (j := 8) rfl hI (za (j := 0) rfl (vecvE (by first | rfl | simp)) zd))) k1 (fun L2 q1 g1 Q183 h hL2 eL2 rL2 => ?_)))
 refine zj (wsr (oM rfl (oM rfl (oV (zii rfl rfl) (rnf (zg h rfl (fun _ h => ?_) (fun _ h => ?_)))))))
 ·refine wkf (zt (wsr (oM rfl (oM rfl (oM rfl (oM rfl (zb h fun y123 hy123 h => oT (zA (zcj hy123) hT (.cons rfl (fun _ _ h => vecvE (by first | rfl | simp) _ _ h) (s3 rfl rfl rfl)) k1 ?_))))))))
  refine zI h fun q124 h => zQ (zY 0 rfl (vecvE q124.symm)) (zQ (zY 14 rfl (vecvE q124.symm)) (rnf (wsr (oM rfl (oA rfl (rnf (zh ?_)))))))
  exact oM rfl (oM rfl (zz h fun q125 h => oV (zaa rfl rfl q125) (oA rfl (zx (zi (hL2 _ () h _ (ze 19 rfl rfl (za (j := 7) rfl hI (za (j := 8) rfl hI (za (j := 0) rfl (vecvE (by first | rfl | simp)) zd))) k1)))))))
 refine zae (zU (eL2 _ _ (zF (zy (wsr (oM rfl (oM rfl (oM rfl ?_))))))))
 refine oM rfl (zb h fun y126 hy126 h => oT (zA (zcj hy126) hT (.cons rfl (fun _ _ h => vecvE (by first | rfl | simp) _ _ h) (s3 rfl rfl rfl)) k1 ?_))
 refine zI h fun q127 h => zQ (zY 0 rfl (vecvE q127.symm)) (zQ (zY 23 rfl (vecvE q127.symm)) (rnf (zt (zaQ (ι := (List Int) × Int) (γ := Unit) (fun q128 g128 => [(6, isv (q128.2)), (7, anyv), (8, anyv), (23, anyv), (0, vecv zD (q128.1.length))]) (fun q128 g128 => [vecE zD (q128.1 : List Int)]) h () (za (j := 6) rfl hI (za (j := 7) rfl (fun _ _ _ => trivial) (za (j := 8) rfl (fun _ _ _ => trivial) (za (j := 23) rfl (fun _ _ _ => trivial) (za (j := 0) rfl (vecvE (by first | rfl | simp)) zd))))) k1 (fun L129 q128 g128 Q182 h hL129 eL129 rL129 => ?_)))))
 refine zj (wsr (oM rfl (oM rfl (oV (zai rfl rfl) (rnf (zg h rfl (fun _ h => ?_) (fun _ h => ?_)))))))
 ·refine wkf (zt (wsr (oM rfl (zz h fun q156 h => oV (zjo rfl rfl q156) (oA rfl (oA rfl (rnf ?_)))))))
  refine zj (zt (zaQ (ι := (List Int) × Int × Int) (γ := Unit) (fun q157 g157 => [(7, isv (q157.2.1)), (8, isv (q157.2.2)), (0, vecv zD (q157.1.length))]) (fun q157 g157 => [vecE zD (q157.1 : List Int)]) h () (za (j := 7) rfl hI (za (j := 8) rfl hI (za (j := 0) rfl (vecvE (by first | rfl | simp)) zd))) k1 (fun L158 q157 g157 Q181 h hL158 eL158 rL158 => ?_)))
  refine zj (wsr (oM rfl (oM rfl (oV (zii rfl rfl) (rnf (zg h rfl (fun _ h => ?_) (fun _ h => ?_)))))))
  ·refine wkf (zt (wsr (oM rfl (oM rfl (oM rfl (oM rfl (zz h fun q170 h => oV (zaa rfl rfl q170) ?_)))))))
   refine oM rfl (oM rfl (zb h fun y171 hy171 h => oT (zA (zc1 fuel hy171) hT (.cons rfl (fun _ _ h => vecvE (by first | rfl | simp) _ _ h) (s4 rfl rfl rfl rfl)) k1 ?_)))
   refine zI h fun q172 h => zQ (zY 0 rfl (vecvE q172.symm)) (zQ (zY 36 rfl (vecvE q172.symm)) (rnf (wsr (oM rfl (oA rfl (rnf (zh ?_)))))))
   refine oM rfl (oM rfl (zz h fun q173 h => oV (zjo rfl rfl q173) (zz h fun q174 h => oV (zaa rfl rfl q174) (oA rfl (zx (zi ?_))))))
   exact hL158 _ () h _ (ze 23 rfl rfl (za (j := 7) rfl hI (za (j := 8) rfl hI (za (j := 0) rfl (vecvE (by first | rfl | simp)) zd))) k1)
  refine zae (zU (eL158 _ _ (zF (zy (zj (wsr (oM rfl (oM rfl ?_))))))))
  refine zz h fun q175 h => oV (zaa rfl rfl q175) (oA rfl (rnf (wsr (oM rfl (oM rfl (oV (zai rfl rfl) (rnf ?_)))))))
  refine zdx (ι := (List Int)) (γ := Unit) (fun q176 g176 => [(0, vecv zD (q176.length))]) (fun q176 g176 => [vecE zD (q176 : List Int)]) k1 h (fun q176 g176 h => ?_) (fun J177 h hJ177 => ?_)
  ·exact zh (oM rfl (zz h fun q180 h => oV (zjo rfl rfl q180) (oA rfl (zx (zi (hL129 _ () h _ (ze 29 rfl rfl (za (j := 6) rfl hI (za (j := 7) rfl (fun _ _ _ => trivial) (za (j := 8) rfl (fun _ _ _ => trivial) (za (j := 23) rfl (fun _ _ _ => trivial) (za (j := 0) rfl (vecvE (by first | rfl | simp)) zd))))) k1)))))))
  refine zg h rfl (fun _ h => ?_) (fun _ h => ?_)
  ·refine zh (oM rfl (oM rfl (oM rfl (oM rfl (oM rfl (zb h fun y178 hy178 h => oT (zA (zc1 fuel hy178) hT (.cons rfl (fun _ _ h => vecvE (by first | rfl | simp) _ _ h) (s4 rfl rfl rfl rfl)) k1 ?_)))))))
   exact zI h fun q179 h => zQ (zY 0 rfl (vecvE q179.symm)) (zQ (zY 55 rfl (vecvE q179.symm)) (zx (hJ177 _ () h _ (ze 8 rfl rfl (za (j := 0) rfl (vecvE (by first | rfl | simp)) zd) k1))))
  exact zab (hJ177 _ () h _ (ze 0 rfl rfl (za (j := 0) rfl (vecvE (by first | rfl | simp)) zd) k1))
 refine zae (zU (eL129 _ _ (zF (zam .nil k1 ?_))))
 cases h
 exact ⟨rfl, rfl⟩


theorem zd7 : ∀ {a_x : (List Int)} {zR : GTab} {zau : GTyp} {zhF : Vt} {r : (List Int)}, zbk a_x zR zau = some r → Ctr Tryd.prog 61 [vecv zhF (a_x.length), clov 39 [immv (zR), immv (zau)]] [vecE zhF (a_x : List Int)] (fun R H => R = oneOf [] ∧ H = [vecE zhF (r)]) := by
 intro a_x zR zau zhF r h
 unfold zbk at h
 refine zu Tryd.func61 rfl fun w0 S0 hT => zh (oM rfl (oM rfl (oV (zgv sl22 rfl) (oM rfl (zb h fun y1 hy1 h => oT (zA (ze9 hy1) hT (.cons rfl (fun _ _ h => vecvE (by first | rfl | simp) _ _ h) (s2 rfl rfl)) k1 ?_))))))
 refine zI h fun q2 h => zQ (zY 0 rfl (vecvE q2.symm)) (zQ (zY 4 rfl (vecvE q2.symm)) (zQ (zY 5 rfl (vecvE q2.symm)) (zx (zam .nil k1 ?_))))
 cases h
 exact ⟨rfl, rfl⟩


theorem ziM : ∀ {zcF : GTab} {zfI : GTyp} {a_l : (List Int)} {zcg : (List Int)} {zc2 : Vt} {r : (List Int)}, zdY zcF zfI a_l zcg = some r → Ctr Tryd.prog 38 [clov 39 [immv (zcF), immv (zfI)], vecv zc2 (a_l.length), isv (zcg)] [vecE zc2 (a_l : List Int)] (fun R H => R = oneOf [isv (r)] ∧ H = []) := by
 intro zcF zfI a_l zcg zc2 r h
 unfold zdY at h
 refine zu Tryd.func38 rfl fun w0 S0 hT => wsr (oA rfl (zQ (zeS (α := Int)) (zQ (zY 6 rfl nilvV) (rnf (wsr (oM rfl (oM rfl ?_)))))))
 refine zb h fun y2 hy2 h => oT (zA (zd7 hy2) hT (.cons rfl (fun _ _ h => vecvE (by first | rfl | simp) _ _ h) (s1 rfl)) (.cons tH .nil) ?_)
 refine zI h fun q3 h => zQ (zY 1 rfl (vecvE q3.symm)) (zQ (zY 7 rfl (vecvE q3.symm)) (rnf (wsr (oM rfl (oM rfl (zar h fun q5 h => oT (zgc (m := zcg) zdo rfl rfl hI .here (by first | rfl | simp) q5 fun v4 => ?_)))))))
 refine oA rfl (rnf (zK (zf7 (zeF 6 .here rfl (by first | rfl | simp)) ?_)))
 cases h
 exact zo (.tmp rfl .nil) .nil ⟨rfl, rfl⟩


theorem zgI : ∀ {a_t : GTab} {a_i : Int} {r : (List Int)}, zcT a_t a_i = some r → Ctr Tryd.prog 14 [isv (a_t), isv (a_i)] [] (fun R H => R = oneOf [isv (r)] ∧ H = []) := by
 intro a_t a_i r h
 unfold zcT at h
 refine zu Tryd.func14 rfl fun w0 S0 hT => wsr (oT (zbd (y := a_t) rfl hI (oA rfl (rnf (wsr (oV (zf ty40 rfl) (oM rfl (zb h fun y1 hy1 h => ?_))))))))
 refine oT (zA (zfE hy1) hT (s2 rfl rfl) .nil (oT (zag _ ze54 fun b2 => oT (zk (y' := (y1 : GTyp)) ty54 rfl rfl hI .here rfl (zQ (zas 5 .here rfl) (rnf (wsr (oV (zZ rfl GTyp.f4 zbE rfl (z := y1.fields)) (oV (zf ty52 rfl) (oV (zaR (l := y1.fields) rfl hI sl52) ?_))))))))))
 refine oA rfl (rnf (zj (wsr (oV (zZ rfl GTyp.f0 zet rfl (z := y1.kind)) (oV (zf ty3 rfl) (rnf (zt (wsr ?_))))))))
 refine oV (zao rfl rfl) (oA rfl (rnf (zg h rfl (fun _ h => ?_) (fun _ h => ?_))))
 ·refine wsr (oM rfl (zb h fun y3 hy3 h => oT (zM (zcM hy3) hT (s2 rfl rfl) .nil (fun R H' hR => ?_))))
  obtain ⟨v4, rfl, rfl⟩ := hR
  refine oA rfl (rnf (zK (zG (zB (zf7 (zeF 4 .here rfl (by first | rfl | simp)) ?_)))))
  cases h
  exact zo (.tmp rfl .nil) .nil ⟨rfl, rfl⟩
 refine zj (wsr (oV (zao rfl rfl) (oA rfl (rnf (zdx (jb 20) je .nil h (fun q5 g5 h => ?_) (fun J6 h hJ6 => ?_))))))
 ·refine zg h rfl (fun _ h => ?_) (fun _ h => ?_)
  ·refine wsr (oV (zZ rfl GTyp.f5 zeK rfl (z := y1.root)) (oV (zf ty3 rfl) (oV (znj rfl rfl) (oM rfl (oV (znG rfl rfl) (oA rfl (rnf (wsr ?_))))))))
   refine oV (zhm (s2 rfl rfl)) (oM rfl (zb h fun y7 hy7 h => oT (zM (zcM hy7) hT (s2 rfl rfl) .nil (fun R H' hR => ?_))))
   obtain ⟨v8, rfl, rfl⟩ := hR
   refine oM rfl (oM rfl (zb h fun y9 hy9 h => oT (zM (zcM hy9) hT (s2 rfl rfl) .nil (fun R H' hR => ?_))))
   obtain ⟨v10, rfl, rfl⟩ := hR
   refine zQ (zeF 33 .here rfl (by first | rfl | simp)) ?_
   refine zb h fun y11 hy11 h => oT (zA (ziM hy11) hT (.same rfl (.cons rfl (fun _ _ h => vecvE (by first | rfl | simp) _ _ h) (s1 rfl))) k1 ?_)
   refine oA rfl (rnf (zK (zG (zB ?_))))
   cases h
   exact zo (.tmp rfl .nil) .nil ⟨rfl, rfl⟩
  refine zab (zi (zy (wsr (oA rfl (rnf (zK ?_))))))
  cases h
  exact zo (.as rfl (zdi (α := Int)) .nil) .nil ⟨rfl, rfl⟩
 refine zg h rfl (fun _ h => ?_) (fun _ h => ?_)
 ·exact zab (hJ6 _ () h _ (ji 0 20 rfl rfl rfl))
 exact zh (oV (zao rfl rfl) (oA rfl (zx (hJ6 _ () h _ (ji 2 20 rfl rfl rfl)))))


theorem zhb : ∀  {r : Bool}, zdc  = some r → Ctr Tryd.prog 11 [] [] (fun R H => R = oneOf [isv (r)] ∧ H = []) := by
 intro  r h
 unfold zdc at h
 refine zu Tryd.func11 rfl fun w0 S0 hT => wsr (oA rfl (rnf (wsr (zb h fun y1 hy1 h => oT (zA (zfw hy1) hT (s1 rfl) .nil (oM rfl (oV (zaD rfl rfl) ?_)))))))
 refine oV (zaD rfl rfl) (oT (zag _ ze40 fun b2 => oT (zk (y' := (y1.1 : GTab)) ty40 rfl rfl hI .here rfl (zQ (zas 1 .here rfl) (oA rfl (rnf (wsr (oV (zf ty40 rfl) (zb h fun y3 hy3 h => ?_)))))))))
 refine oT (zA (zgI hy3) hT (s2 rfl rfl) .nil (oA rfl (rnf (wsr (oM rfl (oM rfl (zaz (jb 15) je .nil h 4 rfl (fun q4 g4 h => ?_) (fun J5 h hJ5 => ?_))))))))
 ·refine oM rfl (zaz (jb 21) je .nil h 5 rfl (fun q7 g7 h => ?_) (fun J8 h hJ8 => ?_))
  ·refine oM rfl (zaz (jb 27) je .nil h 5 rfl (fun q11 g11 h => ?_) (fun J12 h hJ12 => ?_))
   ·refine oA rfl (rnf (zK ?_))
    cases h
    exact zo (.tmp rfl .nil) .nil ⟨rfl, rfl⟩
   refine zC (j := 22) h rfl (fun g13 h => ?_) (fun g13 h => ?_)
   ·exact oK 22 rfl rfl rfl g13 (zq rfl) (zb h fun y14 hy14 h => oK 22 rfl rfl rfl g13 (zaB (l := y3) rfl hI rfl sl22 hy14) (oK 22 rfl rfl rfl g13 (zf ty3 rfl) (oK 22 rfl rfl rfl g13 (zao rfl rfl) (oV (zs rfl g13 rfl) (hJ12 _ () h _ (ji 5 27 rfl rfl rfl))))))
   exact oP 22 rfl rfl g13 (oP 22 rfl rfl g13 (oP 22 rfl rfl g13 (oP 22 rfl rfl g13 (oV (zr rfl g13 rfl) (hJ12 _ () h _ (ji 5 27 rfl rfl rfl))))))
  refine zC (j := 16) h rfl (fun g9 h => ?_) (fun g9 h => ?_)
  ·exact oK 16 rfl rfl rfl g9 (zq rfl) (zb h fun y10 hy10 h => oK 16 rfl rfl rfl g9 (zaB (l := y3) rfl hI rfl sl22 hy10) (oK 16 rfl rfl rfl g9 (zf ty3 rfl) (oK 16 rfl rfl rfl g9 (zao rfl rfl) (oV (zs rfl g9 rfl) (hJ8 _ () h _ (ji 5 21 rfl rfl rfl))))))
  exact oP 16 rfl rfl g9 (oP 16 rfl rfl g9 (oP 16 rfl rfl g9 (oP 16 rfl rfl g9 (oV (zr rfl g9 rfl) (hJ8 _ () h _ (ji 5 21 rfl rfl rfl))))))
 refine zC (j := 11) h rfl (fun g6 h => ?_) (fun g6 h => ?_)
 ·exact oK 11 rfl rfl rfl g6 (zq rfl) (oK 11 rfl rfl rfl g6 (zaR (l := y3) rfl hI sl22) (oK 11 rfl rfl rfl g6 (zao rfl rfl) (oV (zs rfl g6 rfl) (hJ5 _ () h _ (ji 4 15 rfl rfl rfl)))))
 exact oP 11 rfl rfl g6 (oP 11 rfl rfl g6 (oP 11 rfl rfl g6 (oV (zr rfl g6 rfl) (hJ5 _ () h _ (ji 4 15 rfl rfl rfl)))))

end Go.Proofs.Q


namespace Go.Proofs.Q
open Go.Sy
set_option maxRecDepth 4000
theorem zfr : ∀ {a_x : Int} {r : Bool}, zcl a_x = some r → Ctr Tryd.prog 65 [isv (a_x)] [] (fun R H => R = oneOf [isv (r)] ∧ H = []) := by
 intro a_x r h
 unfold zcl at h
 refine zu Tryd.func65 rfl fun w0 S0 hT => wsr (oA rfl (rnf (wsr (oM rfl (oM rfl (oV (zbP rfl rfl) (oA rfl ?_)))))))
 refine rnf (zK ?_)
 cases h
 exact zo (.tmp rfl .nil) .nil ⟨rfl, rfl⟩


theorem zg2 : ∀ {a_x : Int} {a_y : Int} {r : Int}, zcs a_x a_y = some r → Ctr Tryd.prog 45 [isv (a_x), isv (a_y)] [] (fun R H => R = oneOf [isv (r)] ∧ H = []) := by
 intro a_x a_y r h
 unfold zcs at h
 refine zu Tryd.func45 rfl fun w0 S0 hT => wsr (oA rfl (rnf (wsr (oM rfl (zb h fun y1 hy1 h => oT (zA (zfr hy1) hT (s1 rfl) .nil (oA rfl ?_)))))))
 refine rnf (wsr (oM rfl (zb h fun y2 hy2 h => oT (zA (zfr hy2) hT (s1 rfl) .nil (oA rfl (rnf (zj (wsr ?_))))))))
 refine oM rfl (rnf (zg h rfl (fun _ h => ?_) (fun _ h => ?_)))
 ·refine zj (wsr (oM rfl (rnf (zg h rfl (fun _ h => ?_) (fun _ h => ?_)))))
  ·refine wsr (oA rfl (rnf (zK (zB (zB ?_)))))
   cases h
   exact zo (.tmp rfl .nil) .nil ⟨rfl, rfl⟩
  refine wkf (wsr (oA rfl (rnf (zK (zB ?_)))))
  cases h
  exact zo (.tmp rfl .nil) .nil ⟨rfl, rfl⟩
 refine wkf (zj (wsr (oM rfl (rnf (zg h rfl (fun _ h => ?_) (fun _ h => ?_))))))
 ·refine wsr (oA rfl (rnf (zK (zB ?_))))
  cases h
  exact zo (.tmp rfl .nil) .nil ⟨rfl, rfl⟩
 refine wkf (zj (wsr (oM rfl (oM rfl (oV (zai rfl rfl) (rnf (zg h rfl (fun _ h => ?_) (fun _ h => ?_))))))))
 ·refine wsr (oA rfl (rnf (zK (zB ?_))))
  cases h
  exact zo (.tmp rfl .nil) .nil ⟨rfl, rfl⟩
 refine wkf (zj (wsr (oM rfl (oM rfl (oV (zbu rfl rfl) (rnf (zg h rfl (fun _ h => ?_) (fun _ h => ?_))))))))
 ·refine wsr (oA rfl (rnf (zK (zB ?_))))
  cases h
  exact zo (.tmp rfl .nil) .nil ⟨rfl, rfl⟩
 refine wkf (wsr (oA rfl (rnf (zK ?_))))
 cases h
 exact zo (.tmp rfl .nil) .nil ⟨rfl, rfl⟩


theorem zdt : ∀ {a_a : Int} {a_b : Int} {a_a2 : GTyp} {r : Int}, zbn a_a a_b a_a2 = some r → Ctr Tryd.prog 44 [isv (a_a), isv (a_b), immv (a_a2)] [] (fun R H => R = oneOf [isv (r)] ∧ H = []) := by
 intro a_a a_b a_a2 r h
 unfold zbn at h
 refine zu Tryd.func44 rfl fun w0 S0 hT => wsr (oA rfl (rnf (zj (zS (.v 0 (.v 1 (.v 2 (.v 3 (.v 4 (.v 5 (.v 6 (.v 7 (.v 8 (.v 9 (.v 10 (.v 11 (.t 12 (.v 13 .nil)))))))))))))) moOrd (by kernel_rfl) ?_))))
 refine zp rfl (zZ rfl GTyp.f3 zfc rfl (z := a_a2.items)) (zp rfl (zf ty51 rfl) (rvm rfl rfl (zb h fun y1 hy1 h => zp rfl (zaB (l := a_a2.items) rfl hI rfl sl51 hy1) (zp rfl (zZ rfl GItem.f1 zc5 rfl (z := y1.number)) (zp rfl (zf ty2 rfl) (zp rfl (zZ rfl GTyp.f3 zfc rfl (z := a_a2.items)) (zp rfl (zf ty51 rfl) ?_)))))))
 refine rvm rfl rfl (zb h fun y2 hy2 h => zp rfl (zaB (l := a_a2.items) rfl hI rfl sl51 hy2) (zp rfl (zZ rfl GItem.f1 zc5 rfl (z := y2.number)) (zp rfl (zf ty2 rfl) (zb h fun y3 hy3 h => zT rfl rfl (zA (zg2 hy3) hT (s2 rfl rfl) .nil (zp rfl (zaX rfl) (zac ?_)))))))
 refine zy (zK ?_)
 cases h
 exact zo (.tmp rfl .nil) .nil ⟨rfl, rfl⟩


theorem zb8 : ∀ {zaf : (List Int)} {a_a : Int} {a_b : Int} {zR : GTyp} {zD : Vt} {r : (List Int)}, za5 zaf a_a a_b zR = some r → Ctr Tryd.prog 106 [vecv zD (zaf.length), isv (a_a), isv (a_b), clov 44 [immv (zR)]] [vecE zD (zaf : List Int)] (fun R H => R = oneOf [] ∧ H = [vecE zD (r)]) := by
 intro zaf a_a a_b zR zD r h
 unfold za5 at h
 refine zu Tryd.func106 rfl fun w0 S0 hT => wsr (oM rfl (zz h fun q1 h => oV (zaa rfl rfl q1) (oA rfl (rnf (zt (zaQ (ι := (List Int) × Int) (γ := Unit) (fun q2 g2 => [(8, isv (q2.2)), (0, vecv zD (q2.1.length))]) (fun q2 g2 => [vecE zD (q2.1 : List Int)]) h () (za (j := 8) rfl hI (za (j := 0) rfl (vecvE (by first | rfl | simp)) zd)) k1 (fun L3 q2 g2 Q94 h hL3 eL3 rL3 => ?_)))))))
 refine zj (wsr (oM rfl (oM rfl (oV (zai rfl rfl) (rnf (zg h rfl (fun _ h => ?_) (fun _ h => ?_)))))))
 ·refine wkf (zj (zt (wsr (oM rfl (oA rfl (rnf (zt (zaQ (ι := (List Int) × Int) (γ := Unit) (fun q49 g49 => [(9, isv (q49.2)), (0, vecv zD (q49.1.length))]) (fun q49 g49 => [vecE zD (q49.1 : List Int)]) h () (za (j := 9) rfl hI (za (j := 0) rfl (vecvE (by first | rfl | simp)) zd)) k1 (fun L50 q49 g49 Q93 h hL50 eL50 rL50 => ?_)))))))))
  refine zj (zj (zgF 0 .here rfl (by first | rfl | simp) (fun o72 hn73 => ?_)))
  refine zS (.v 0 (.v 1 (.v 2 (.v 3 (.v 4 (.v 5 (.v 6 (.v 7 (.v 8 (.v 9 (.v 10 (.v 11 (.v 12 (.v 13 (.t 14 (.v 15 (.v 16 .nil))))))))))))))))) moOrd (by kernel_rfl) ?_
  refine rvm rfl rfl (rvm rfl rfl (zp rfl (zbu rfl rfl) (rvm rfl rfl (zcV (jb 34) je .nil h 13 rfl (fun q74 g74 h => ?_) (fun J75 h hJ75 => ?_)))))
  ·refine zac (zdf 0 hn73 rfl (zy (zg h rfl (fun _ h => ?_) (fun _ h => ?_))))
   ·refine wkf (zj (zt (zS (.v 0 (.v 1 (.v 2 (.v 3 (.v 4 (.v 5 (.v 6 (.v 7 (.v 8 (.v 10 (.v 11 (.v 12 (.alt 9 (.t 13 (.v 14 (.t 15 (.v 16 (.t 17 .nil))))) (.t 13 (.t 9 (.v 14 (.t 15 (.v 16 (.t 17 .nil))))))))))))))))))) moOrd (by kernel_rfl) ?_)))
    refine rvm rfl rfl (rvm rfl rfl (rvm rfl rfl (rvm rfl rfl (zz h fun q81 h => zp rfl (zaL rfl rfl q81) (rvm rfl rfl (rvm rfl rfl (zz h fun q82 h => ?_)))))))
    refine zp rfl (zaL rfl rfl q82) (zI h fun q83 h => zp rfl (zan (α := Int) sl22 rfl rfl q83.1 q83.2) (rvm rfl rfl (rvm rfl rfl (zI h fun q84 h => zp rfl (zan (α := Int) sl22 rfl rfl q84.1 q84.2) (zb h fun y85 hy85 h => zb h fun y86 hy86 h => ?_)))))
    refine zI h fun q87 h => zb h fun y88 hy88 h => zI h fun q89 h => zb h fun y90 hy90 h => zz h fun q91 h => zbw ?_ ?_
    ·refine zT rfl rfl (zax ty3 rfl .here hy85 ?_)
     refine zT rfl rfl (zax ty3 rfl .here hy86 ?_)
     refine zp rfl (zan (α := Int) sl22 rfl rfl q87.1 q87.2) (zT rfl rfl (zat ty3 rfl rfl .here hy88 (zp rfl (zan (α := Int) sl22 rfl rfl q89.1 q89.2) (zT rfl rfl (zat ty3 rfl rfl .here hy90 (zac (zi (zy (zh (oM rfl ?_))))))))))
     exact oV (zaL rfl rfl q91) (oA rfl (zx (hL50 _ () h _ (ze 28 rfl rfl (za (j := 9) rfl hI (za (j := 0) rfl (vecvE (by first | rfl | simp)) zd)) k1))))
    refine zT rfl rfl (zax ty3 rfl .here hy86 ?_)
    refine zT rfl rfl (zax ty3 rfl .here hy85 ?_)
    refine zp rfl (zan (α := Int) sl22 rfl rfl q87.1 q87.2) (zT rfl rfl (zat ty3 rfl rfl .here hy88 (zp rfl (zan (α := Int) sl22 rfl rfl q89.1 q89.2) (zT rfl rfl (zat ty3 rfl rfl .here hy90 (zac (zi (zy (zh (oM rfl ?_))))))))))
    exact oV (zaL rfl rfl q91) (oA rfl (zx (hL50 _ () h _ (ze 28 rfl rfl (za (j := 9) rfl hI (za (j := 0) rfl (vecvE (by first | rfl | simp)) zd)) k1))))
   refine zae (zU (eL50 _ _ (zF (zi (zy (zh (oM rfl (zz h fun q92 h => ?_))))))))
   exact oV (zaa rfl rfl q92) (oA rfl (zx (hL3 _ () h _ (ze 19 rfl rfl (za (j := 8) rfl hI (za (j := 0) rfl (vecvE (by first | rfl | simp)) zd)) k1))))
  refine zav (j := 21) h rfl (fun g76 h => ?_) (fun g76 h => ?_)
  ·refine rvt 21 rfl rfl rfl g76 (zq rfl) (rvt 21 rfl rfl rfl g76 (zq rfl) (rvt 21 rfl rfl rfl g76 (zq rfl) (zb h fun y77 hy77 h => rvt 21 rfl rfl rfl g76 (zeR (α := Int) sl22 rfl rfl hy77) (rvt 21 rfl rfl rfl g76 (zeQ ty3 rfl zcA) (rvt 21 rfl rfl rfl g76 (zq rfl) (rvt 21 rfl rfl rfl g76 (zq rfl) (zz h fun q78 h => ?_)))))))
   refine rvt 21 rfl rfl rfl g76 (zaL rfl rfl q78) (zb h fun y79 hy79 h => rvt 21 rfl rfl rfl g76 (zeR (α := Int) sl22 rfl rfl hy79) (rvt 21 rfl rfl rfl g76 (zeQ ty3 rfl zcA) (zb h fun y80 hy80 h => zeP rfl rfl rfl (dj := 21) rfl g76 (zeV rfl (s2 rfl rfl) (zdt hy80) hT .nil (fun R H' hR => ?_)))))
   obtain ⟨rfl, rfl⟩ := hR
   exact rvt 21 rfl rfl rfl g76 (zai rfl rfl) (zp rfl (zs rfl g76 rfl) (hJ75 _ () h _ (ji 13 34 rfl rfl rfl)))
  refine rpv 21 rfl rfl rfl g76 (rpv 21 rfl rfl rfl g76 (rpv 21 rfl rfl rfl g76 (rpv 21 rfl rfl rfl g76 (rpv 21 rfl rfl rfl g76 (rpv 21 rfl rfl rfl g76 (rpv 21 rfl rfl rfl g76 (rpv 21 rfl rfl rfl g76 (rpv 21 rfl rfl rfl g76 ?_))))))))
  exact rpv 21 rfl rfl rfl g76 (zb6 rfl rfl (dj := 21) rfl g76 (rpv 21 rfl rfl rfl g76 (zp rfl (zr rfl g76 rfl) (hJ75 _ () h _ (ji 13 34 rfl rfl rfl)))))
 refine zae (zU (eL3 _ _ (zF (zam .nil k1 ?_))))
 cases h
 exact ⟨rfl, rfl⟩


theorem zbF : ∀ {zaf : (List Int)} {a_a : Int} {a_b : Int} {a_n_ : Int} {zR : GTyp} {zD : Vt} {r : (List Int)}, zaW zaf a_a a_b a_n_ zR = some r → Ctr Tryd.prog 122 [vecv zD (zaf.length), isv (a_a), isv (a_b), isv (a_n_), clov 44 [immv (zR)]] [vecE zD (zaf : List Int)] (fun R H => R = oneOf [] ∧ H = [vecE zD (r)]) := by
 intro zaf a_a a_b a_n_ zR zD r h
 unfold zaW at h
 refine zu Tryd.func122 rfl fun w0 S0 hT => wsr (oA rfl (rnf (zt (zaQ (ι := (List Int) × Int) (γ := Unit) (fun q1 g1 => [(10, isv (q1.2)), (0, vecv zD (q1.1.length))]) (fun q1 g1 => [vecE zD (q1.1 : List Int)]) h () (za (j := 10) rfl hI (za (j := 0) rfl (vecvE (by first | rfl | simp)) zd)) k1 (fun L2 q1 g1 Q42 h hL2 eL2 rL2 => ?_)))))
 refine zj (wsr (oM rfl (oM rfl (oV (zai rfl rfl) (rnf (zg h rfl (fun _ h => ?_) (fun _ h => ?_)))))))
 ·refine wkf (zj (zt (zS (.v 0 (.v 1 (.v 2 (.v 3 (.v 4 (.v 5 (.v 6 (.v 7 (.v 8 (.v 9 (.v 10 (.v 11 (.v 12 (.v 14 (.v 15 (.v 16 (.v 17 (.v 18 (.alt 13 (.t 19 (.v 20 (.t 21 (.v 22 (.t 23 .nil))))) (.t 19 (.t 13 (.v 20 (.t 21 (.v 22 (.t 23 .nil))))))))))))))))))))))))) moOrd (by kernel_rfl) ?_)))
  refine rvm rfl rfl (rvm rfl rfl (rvm rfl rfl (zz h fun q29 h => zp rfl (zaa rfl rfl q29) (rvm rfl rfl (rvm rfl rfl (rvm rfl rfl (zz h fun q30 h => ?_)))))))
  refine zp rfl (zaa rfl rfl q30) (rvm rfl rfl (rvm rfl rfl (rvm rfl rfl (zz h fun q31 h => zp rfl (zaa rfl rfl q31) (zI h fun q32 h => zp rfl (zan (α := Int) sl22 rfl rfl q32.1 q32.2) (rvm rfl rfl ?_))))))
  refine rvm rfl rfl (rvm rfl rfl (zz h fun q33 h => zp rfl (zaa rfl rfl q33) (zI h fun q34 h => zp rfl (zan (α := Int) sl22 rfl rfl q34.1 q34.2) (zb h fun y35 hy35 h => zb h fun y36 hy36 h => zI h fun q37 h => ?_))))
  refine zb h fun y38 hy38 h => zI h fun q39 h => zb h fun y40 hy40 h => zz h fun q41 h => zbw ?_ ?_
  ·refine zT rfl rfl (zax ty3 rfl .here hy35 ?_)
   refine zT rfl rfl (zax ty3 rfl .here hy36 ?_)
   refine zp rfl (zan (α := Int) sl22 rfl rfl q37.1 q37.2) (zT rfl rfl (zat ty3 rfl rfl .here hy38 (zp rfl (zan (α := Int) sl22 rfl rfl q39.1 q39.2) (zT rfl rfl (zat ty3 rfl rfl .here hy40 (zac (zi (zy (zh (oM rfl ?_))))))))))
   exact oV (zaa rfl rfl q41) (oA rfl (zx (hL2 _ () h _ (ze 30 rfl rfl (za (j := 10) rfl hI (za (j := 0) rfl (vecvE (by first | rfl | simp)) zd)) k1))))
  refine zT rfl rfl (zax ty3 rfl .here hy36 ?_)
  refine zT rfl rfl (zax ty3 rfl .here hy35 ?_)
  refine zp rfl (zan (α := Int) sl22 rfl rfl q37.1 q37.2) (zT rfl rfl (zat ty3 rfl rfl .here hy38 (zp rfl (zan (α := Int) sl22 rfl rfl q39.1 q39.2) (zT rfl rfl (zat ty3 rfl rfl .here hy40 (zac (zi (zy (zh (oM rfl ?_))))))))))
  exact oV (zaa rfl rfl q41) (oA rfl (zx (hL2 _ () h _ (ze 30 rfl rfl (za (j := 10) rfl hI (za (j := 0) rfl (vecvE (by first | rfl | simp)) zd)) k1))))
 refine zae (zU (eL2 _ _ (zF (zam .nil k1 ?_))))
 cases h
 exact ⟨rfl, rfl⟩


theorem zeI : ∀ {zaf : (List Int)} {a_a : Int} {a_m : Int} {a_b : Int} {zR : GTyp} {zD : Vt} {r : (List Int)}, zcd zaf a_a a_m a_b zR = some r → Ctr Tryd.prog 115 [vecv zD (zaf.length), isv (a_a), isv (a_m), isv (a_b), clov 44 [immv (zR)]] [vecE zD (zaf : List Int)] (fun R H => R = oneOf [] ∧ H = [vecE zD (r)]) := by
 intro zaf a_a a_m a_b zR zD r h
 unfold zcd at h
 refine zu Tryd.func115 rfl fun w0 S0 hT => wsr (oM rfl (oM rfl (zz h fun q1 h => oV (zaL rfl rfl q1) (oA rfl (rnf (wsr ?_))))))
 refine oM rfl (oM rfl (zz h fun q2 h => oV (zaL rfl rfl q2) (oA rfl (rnf (zj (zt (zaQ (ι := (List Int) × Int × Int) (γ := Unit) (fun q3 g3 => [(10, isv (q3.2.1)), (11, isv (q3.2.2)), (0, vecv zD (q3.1.length))]) (fun q3 g3 => [vecE zD (q3.1 : List Int)]) h () (za (j := 10) rfl hI (za (j := 11) rfl hI (za (j := 0) rfl (vecvE (by first | rfl | simp)) zd))) k1 (fun L4 q3 g3 Q31 h hL4 eL4 rL4 => ?_))))))))
 refine zj (wsr (oM rfl (oM rfl (oV (zbP rfl rfl) (rnf (zg h rfl (fun _ h => ?_) (fun _ h => ?_)))))))
 ·refine wkf (zt (wsr (oM rfl (oM rfl (oV (zbu rfl rfl) (rnf (zg h rfl (fun _ h => ?_) (fun _ h => ?_))))))))
  ·refine wsr (oM rfl (oM rfl (oM rfl (zz h fun q18 h => oV (zaL rfl rfl q18) (oM rfl (oM rfl (oM rfl ?_)))))))
   refine zb h fun y19 hy19 h => oT (zA (zbF hy19) hT (.cons rfl (fun _ _ h => vecvE (by first | rfl | simp) _ _ h) (s4 rfl rfl rfl rfl)) k1 ?_)
   refine zI h fun q20 h => zQ (zY 0 rfl (vecvE q20.symm)) (zQ (zY 24 rfl (vecvE q20.symm)) (rnf (zh (oM rfl (oM rfl (zz h fun q21 h => oV (zaL rfl rfl q21) ?_))))))
   exact oA rfl (zx (zi (hL4 _ () h _ (ze 23 rfl rfl (za (j := 10) rfl hI (za (j := 11) rfl hI (za (j := 0) rfl (vecvE (by first | rfl | simp)) zd))) k1))))
  refine wsr (oM rfl (oM rfl (oM rfl (zz h fun q22 h => oV (zaL rfl rfl q22) (oM rfl (oM rfl (zz h fun q23 h => ?_)))))))
  refine oV (zaa rfl rfl q23) (oM rfl (zz h fun q24 h => oV (zaL rfl rfl q24) (oM rfl (oM rfl (zb h fun y25 hy25 h => oT (zA (zbF hy25) hT (.cons rfl (fun _ _ h => vecvE (by first | rfl | simp) _ _ h) (s4 rfl rfl rfl rfl)) k1 ?_))))))
  refine zI h fun q26 h => zQ (zY 0 rfl (vecvE q26.symm)) (zQ (zY 35 rfl (vecvE q26.symm)) (rnf (zh (oM rfl (oM rfl (zz h fun q27 h => oV (zaL rfl rfl q27) ?_))))))
  exact oA rfl (zx (zi (hL4 _ () h _ (ze 27 rfl rfl (za (j := 10) rfl hI (za (j := 11) rfl hI (za (j := 0) rfl (vecvE (by first | rfl | simp)) zd))) k1))))
 refine zae (zU (eL4 _ _ (zF (zy (zh (oM rfl (oM rfl (oM rfl ?_))))))))
 refine zz h fun q28 h => oV (zaL rfl rfl q28) (oM rfl (oM rfl (oM rfl (zb h fun y29 hy29 h => oT (zA (zbF hy29) hT (.cons rfl (fun _ _ h => vecvE (by first | rfl | simp) _ _ h) (s4 rfl rfl rfl rfl)) k1 ?_)))))
 refine zI h fun q30 h => zQ (zY 0 rfl (vecvE q30.symm)) (zQ (zY 50 rfl (vecvE q30.symm)) (zx (zam .nil k1 ?_)))
 cases h
 exact ⟨rfl, rfl⟩


def zbM (f' : (List Int) → Int → Int → Int → GTyp → Option ((List Int))) : Prop :=
 ∀ {zaf : (List Int)} {a_a : Int} {a_m : Int} {a_b : Int} {zR : GTyp} {zD : Vt} {r : (List Int)}, f' zaf a_a a_m a_b zR = some r → Ctr Tryd.prog 107 [vecv zD (zaf.length), isv (a_a), isv (a_m), isv (a_b), clov 44 [immv (zR)]] [vecE zD (zaf : List Int)] (fun R H => R = oneOf [] ∧ H = [vecE zD (r)])
theorem zec {zaY : (List Int) → Int → Int → Int → GTyp → Option ((List Int))} (zcJ : zbM zaY) : ∀ {zaf : (List Int)} {a_a : Int} {a_m : Int} {a_b : Int} {zR : GTyp} {zD : Vt} {r : (List Int)}, zbN zaY zaf a_a a_m a_b zR = some r → Ctr Tryd.prog 107 [vecv zD (zaf.length), isv (a_a), isv (a_m), isv (a_b), clov 44 [immv (zR)]] [vecE zD (zaf : List Int)] (fun R H => R = oneOf [] ∧ H = [vecE zD (r)]) := by
 intro zaf a_a a_m a_b zR zD r h
 unfold zbN at h
 refine zu Tryd.func107 rfl fun w0 S0 hT => zj (wsr (oM rfl (oM rfl (zz h fun q1 h => oV (zaL rfl rfl q1) (oV (zao rfl rfl) (rnf ?_))))))
 refine zg h rfl (fun _ h => ?_) (fun _ h => ?_)
 ·refine wsr (oM rfl (oA rfl (rnf (wsr (oM rfl (oA rfl (rnf (zj ?_))))))))
  refine zt (zaQ (ι := (List Int) × Int × Int) (γ := Unit) (fun q2 g2 => [(10, isv (q2.2.1)), (11, isv (q2.2.2)), (0, vecv zD (q2.1.length))]) (fun q2 g2 => [vecE zD (q2.1 : List Int)]) h () (za (j := 10) rfl hI (za (j := 11) rfl hI (za (j := 0) rfl (vecvE (by first | rfl | simp)) zd))) k1 (fun L3 q2 g2 Q145 h hL3 eL3 rL3 => ?_))
  refine zj (wsr (oM rfl (oM rfl (oV (zai rfl rfl) (rnf (zg h rfl (fun _ h => ?_) (fun _ h => ?_)))))))
  ·refine wkf (zt (wsr (oM rfl (oM rfl (zz h fun q98 h => oV (zaa rfl rfl q98) (oV (zic Tryd.underlying3 Tryd.underlying24 rfl) (oV (zfq (q := (1 : UInt64)) rfl rfl (by decide)) ?_)))))))
   refine zz h fun q99 h => oV (zfC Tryd.underlying24 Tryd.underlying3 rfl q99) (oA rfl (rnf (zj (zgF 0 .here rfl (by first | rfl | simp) (fun o100 hn101 => ?_)))))
   refine zS (.v 0 (.v 1 (.v 2 (.v 3 (.v 4 (.v 5 (.v 6 (.v 7 (.v 8 (.t 9 (.v 10 .nil))))))))))) moOrd (by kernel_rfl) ?_
   refine rvm rfl rfl (rvm rfl rfl (rvm rfl rfl (zb h fun y102 hy102 h => zp rfl (zeR (α := Int) sl22 rfl rfl hy102) (zp rfl (zeQ ty3 rfl zcA) (rvm rfl rfl (rvm rfl rfl (zb h fun y103 hy103 h => ?_)))))))
   refine zp rfl (zeR (α := Int) sl22 rfl rfl hy103) (zp rfl (zeQ ty3 rfl zcA) (zb h fun y104 hy104 h => zT rfl rfl (zeV rfl (s2 rfl rfl) (zdt hy104) hT .nil (fun R H' hR => ?_))))
   obtain ⟨rfl, rfl⟩ := hR
   refine zp rfl (zai rfl rfl) (zac (zdf 0 hn101 rfl (zy (zg h rfl (fun _ h => ?_) (fun _ h => ?_)))))
   ·exact zh (oM rfl (zz h fun q105 h => oV (zaa rfl rfl q105) (oA rfl (zx (zi (hL3 _ () h _ (ze 29 rfl rfl (za (j := 10) rfl hI (za (j := 11) rfl hI (za (j := 0) rfl (vecvE (by first | rfl | simp)) zd))) k1)))))))
   exact zh (oM rfl (oA rfl (zx (zi (hL3 _ () h _ (ze 28 rfl rfl (za (j := 10) rfl hI (za (j := 11) rfl hI (za (j := 0) rfl (vecvE (by first | rfl | simp)) zd))) k1))))))
  refine zae (zU (eL3 _ _ (zF (zy (zj (wsr (oM rfl (oA rfl ?_))))))))
  refine rnf (zt (zaQ (ι := (List Int) × Int) (γ := Unit) (fun q106 g106 => [(13, isv (q106.2)), (0, vecv zD (q106.1.length))]) (fun q106 g106 => [vecE zD (q106.1 : List Int)]) h () (za (j := 13) rfl hI (za (j := 0) rfl (vecvE (by first | rfl | simp)) zd)) k1 (fun L107 q106 g106 Q144 h hL107 eL107 rL107 => ?_)))
  refine zj (wsr (oM rfl (oM rfl (zz h fun q132 h => oV (zaL rfl rfl q132) (oV (zai rfl rfl) (rnf (zg h rfl (fun _ h => ?_) (fun _ h => ?_))))))))
  ·refine wkf (zj (zt (zS (.v 0 (.v 1 (.v 2 (.v 3 (.v 4 (.v 5 (.v 6 (.v 7 (.v 8 (.v 10 (.v 11 (.v 12 (.alt 9 (.t 13 (.v 14 (.t 15 (.v 16 (.t 17 .nil))))) (.t 13 (.t 9 (.v 14 (.t 15 (.v 16 (.t 17 .nil))))))))))))))))))) moOrd (by kernel_rfl) ?_)))
   refine rvm rfl rfl (rvm rfl rfl (rvm rfl rfl (rvm rfl rfl (zz h fun q133 h => zp rfl (zaa rfl rfl q133) (rvm rfl rfl (rvm rfl rfl (zz h fun q134 h => ?_)))))))
   refine zp rfl (zaa rfl rfl q134) (zI h fun q135 h => zp rfl (zan (α := Int) sl22 rfl rfl q135.1 q135.2) (rvm rfl rfl (rvm rfl rfl (zI h fun q136 h => zp rfl (zan (α := Int) sl22 rfl rfl q136.1 q136.2) (zb h fun y137 hy137 h => zb h fun y138 hy138 h => ?_)))))
   refine zI h fun q139 h => zb h fun y140 hy140 h => zI h fun q141 h => zb h fun y142 hy142 h => zz h fun q143 h => zbw ?_ ?_
   ·refine zT rfl rfl (zax ty3 rfl .here hy137 ?_)
    refine zT rfl rfl (zax ty3 rfl .here hy138 ?_)
    refine zp rfl (zan (α := Int) sl22 rfl rfl q139.1 q139.2) (zT rfl rfl (zat ty3 rfl rfl .here hy140 (zp rfl (zan (α := Int) sl22 rfl rfl q141.1 q141.2) (zT rfl rfl (zat ty3 rfl rfl .here hy142 (zac (zi (zy (zh (oM rfl ?_))))))))))
    exact oV (zaa rfl rfl q143) (oA rfl (zx (hL107 _ () h _ (ze 25 rfl rfl (za (j := 13) rfl hI (za (j := 0) rfl (vecvE (by first | rfl | simp)) zd)) k1))))
   refine zT rfl rfl (zax ty3 rfl .here hy138 ?_)
   refine zT rfl rfl (zax ty3 rfl .here hy137 ?_)
   refine zp rfl (zan (α := Int) sl22 rfl rfl q139.1 q139.2) (zT rfl rfl (zat ty3 rfl rfl .here hy140 (zp rfl (zan (α := Int) sl22 rfl rfl q141.1 q141.2) (zT rfl rfl (zat ty3 rfl rfl .here hy142 (zac (zi (zy (zh (oM rfl ?_))))))))))
   exact oV (zaa rfl rfl q143) (oA rfl (zx (hL107 _ () h _ (ze 25 rfl rfl (za (j := 13) rfl hI (za (j := 0) rfl (vecvE (by first | rfl | simp)) zd)) k1))))
  refine zae (zU (eL107 _ _ (zF (zy (zK (zB ?_))))))
  cases h
  exact zo .nil k1 ⟨rfl, rfl⟩
 refine wkf (zj (wsr (oM rfl (oM rfl (zz h fun q146 h => oV (zaL rfl rfl q146) (oV (zao rfl rfl) (rnf ?_)))))))
 refine zg h rfl (fun _ h => ?_) (fun _ h => ?_)
 ·refine wsr (oM rfl (oA rfl (rnf (wsr (oM rfl (oA rfl (rnf (zj ?_))))))))
  refine zt (zaQ (ι := (List Int) × Int × Int) (γ := Unit) (fun q147 g147 => [(14, isv (q147.2.1)), (15, isv (q147.2.2)), (0, vecv zD (q147.1.length))]) (fun q147 g147 => [vecE zD (q147.1 : List Int)]) h () (za (j := 14) rfl hI (za (j := 15) rfl hI (za (j := 0) rfl (vecvE (by first | rfl | simp)) zd))) k1 (fun L148 q147 g147 Q281 h hL148 eL148 rL148 => ?_))
  refine zj (wsr (oM rfl (oM rfl (oV (zai rfl rfl) (rnf (zg h rfl (fun _ h => ?_) (fun _ h => ?_)))))))
  ·refine wkf (zt (wsr (oM rfl (oM rfl (zz h fun q237 h => oV (zaa rfl rfl q237) (oV (zic Tryd.underlying3 Tryd.underlying24 rfl) (oV (zfq (q := (1 : UInt64)) rfl rfl (by decide)) ?_)))))))
   refine zz h fun q238 h => oV (zfC Tryd.underlying24 Tryd.underlying3 rfl q238) (oA rfl (rnf (zj (zgF 0 .here rfl (by first | rfl | simp) (fun o239 hn240 => ?_)))))
   refine zS (.v 0 (.v 1 (.v 2 (.v 3 (.v 4 (.v 5 (.v 6 (.v 7 (.v 8 (.t 9 (.v 10 (.v 11 .nil)))))))))))) moOrd (by kernel_rfl) ?_
   refine rvm rfl rfl (rvm rfl rfl (rvm rfl rfl (zb h fun y241 hy241 h => zp rfl (zeR (α := Int) sl22 rfl rfl hy241) (zp rfl (zeQ ty3 rfl zcA) (rvm rfl rfl (rvm rfl rfl (zb h fun y242 hy242 h => ?_)))))))
   refine zp rfl (zeR (α := Int) sl22 rfl rfl hy242) (zp rfl (zeQ ty3 rfl zcA) (zb h fun y243 hy243 h => zT rfl rfl (zeV rfl (s2 rfl rfl) (zdt hy243) hT .nil (fun R H' hR => ?_))))
   obtain ⟨rfl, rfl⟩ := hR
   refine zp rfl (zai rfl rfl) (zp rfl (zbt rfl) (zac (zdf 0 hn240 rfl (zy (zg h rfl (fun _ h => ?_) (fun _ h => ?_))))))
   ·exact zh (oM rfl (zz h fun q244 h => oV (zaa rfl rfl q244) (oA rfl (zx (zi (hL148 _ () h _ (ze 30 rfl rfl (za (j := 14) rfl hI (za (j := 15) rfl hI (za (j := 0) rfl (vecvE (by first | rfl | simp)) zd))) k1)))))))
   exact zh (oM rfl (oA rfl (zx (zi (hL148 _ () h _ (ze 29 rfl rfl (za (j := 14) rfl hI (za (j := 15) rfl hI (za (j := 0) rfl (vecvE (by first | rfl | simp)) zd))) k1))))))
  refine zae (zU (eL148 _ _ (zF (zy (zj (wsr (oM rfl (oA rfl ?_))))))))
  refine rnf (zt (zaQ (ι := (List Int) × Int) (γ := Unit) (fun q245 g245 => [(17, isv (q245.2)), (0, vecv zD (q245.1.length))]) (fun q245 g245 => [vecE zD (q245.1 : List Int)]) h () (za (j := 17) rfl hI (za (j := 0) rfl (vecvE (by first | rfl | simp)) zd)) k1 (fun L246 q245 g245 Q280 h hL246 eL246 rL246 => ?_)))
  refine zj (wsr (oM rfl (oM rfl (oV (zbu rfl rfl) (rnf (zg h rfl (fun _ h => ?_) (fun _ h => ?_)))))))
  ·refine wkf (zj (zt (zS (.v 0 (.v 1 (.v 2 (.v 3 (.v 4 (.v 5 (.v 6 (.v 7 (.v 8 (.v 10 (.v 11 (.v 12 (.alt 9 (.t 13 (.v 14 (.t 15 (.v 16 (.t 17 .nil))))) (.t 13 (.t 9 (.v 14 (.t 15 (.v 16 (.t 17 .nil))))))))))))))))))) moOrd (by kernel_rfl) ?_)))
   refine rvm rfl rfl (rvm rfl rfl (rvm rfl rfl (rvm rfl rfl (zz h fun q269 h => zp rfl (zaL rfl rfl q269) (rvm rfl rfl (rvm rfl rfl (zz h fun q270 h => ?_)))))))
   refine zp rfl (zaL rfl rfl q270) (zI h fun q271 h => zp rfl (zan (α := Int) sl22 rfl rfl q271.1 q271.2) (rvm rfl rfl (rvm rfl rfl (zI h fun q272 h => zp rfl (zan (α := Int) sl22 rfl rfl q272.1 q272.2) (zb h fun y273 hy273 h => zb h fun y274 hy274 h => ?_)))))
   refine zI h fun q275 h => zb h fun y276 hy276 h => zI h fun q277 h => zb h fun y278 hy278 h => zz h fun q279 h => zbw ?_ ?_
   ·refine zT rfl rfl (zax ty3 rfl .here hy273 ?_)
    refine zT rfl rfl (zax ty3 rfl .here hy274 ?_)
    refine zp rfl (zan (α := Int) sl22 rfl rfl q275.1 q275.2) (zT rfl rfl (zat ty3 rfl rfl .here hy276 (zp rfl (zan (α := Int) sl22 rfl rfl q277.1 q277.2) (zT rfl rfl (zat ty3 rfl rfl .here hy278 (zac (zi (zy (zh (oM rfl ?_))))))))))
    exact oV (zaL rfl rfl q279) (oA rfl (zx (hL246 _ () h _ (ze 24 rfl rfl (za (j := 17) rfl hI (za (j := 0) rfl (vecvE (by first | rfl | simp)) zd)) k1))))
   refine zT rfl rfl (zax ty3 rfl .here hy274 ?_)
   refine zT rfl rfl (zax ty3 rfl .here hy273 ?_)
   refine zp rfl (zan (α := Int) sl22 rfl rfl q275.1 q275.2) (zT rfl rfl (zat ty3 rfl rfl .here hy276 (zp rfl (zan (α := Int) sl22 rfl rfl q277.1 q277.2) (zT rfl rfl (zat ty3 rfl rfl .here hy278 (zac (zi (zy (zh (oM rfl ?_))))))))))
   exact oV (zaL rfl rfl q279) (oA rfl (zx (hL246 _ () h _ (ze 24 rfl rfl (za (j := 17) rfl hI (za (j := 0) rfl (vecvE (by first | rfl | simp)) zd)) k1))))
  refine zae (zU (eL246 _ _ (zF (zy (zK (zB ?_))))))
  cases h
  exact zo .nil k1 ⟨rfl, rfl⟩
 refine wkf (wsr (oM rfl (oM rfl (zz h fun q282 h => oV (zaa rfl rfl q282) (oV (zic Tryd.underlying3 Tryd.underlying24 rfl) (oV (zfq (q := (1 : UInt64)) rfl rfl (by decide)) ?_))))))
 refine zz h fun q283 h => oV (zfC Tryd.underlying24 Tryd.underlying3 rfl q283) (oA rfl (rnf (wsr (oM rfl (oM rfl (zz h fun q284 h => oV (zaa rfl rfl q284) ?_))))))
 refine oA rfl (rnf (wsr (oA rfl (oA rfl (rnf (zj (wsr (oM rfl ?_))))))))
 refine oM rfl (oV (zbu rfl rfl) (rnf (zdx (ι := Int × Int) (γ := Unit) (fun q285 g285 => [(20, isv (q285.1)), (21, isv (q285.2))]) (fun q285 g285 => []) .nil h (fun q285 g285 h => ?_) (fun J286 h hJ286 => ?_))))
 ·refine wsr (oM rfl (zz h fun q288 h => oV (zaL rfl rfl q288) (oA rfl (rnf (zj (zt (zaQ (ι := (List Int) × Int × Int) (γ := Unit) (fun q289 g289 => [(20, isv (q289.2.1)), (21, isv (q289.2.2)), (0, vecv zD (q289.1.length))]) (fun q289 g289 => [vecE zD (q289.1 : List Int)]) h () (za (j := 20) rfl hI (za (j := 21) rfl hI (za (j := 0) rfl (vecvE (by first | rfl | simp)) zd))) k1 (fun L290 q289 g289 Q378 h hL290 eL290 rL290 => ?_))))))))
  refine zj (wsr (oM rfl (oM rfl (oV (zai rfl rfl) (rnf (zg h rfl (fun _ h => ?_) (fun _ h => ?_)))))))
  ·refine wkf (zt (wsr (oM rfl (oM rfl (zz h fun q349 h => oV (zaa rfl rfl q349) (oV (zic Tryd.underlying3 Tryd.underlying24 rfl) (oV (zfq (q := (1 : UInt64)) rfl rfl (by decide)) ?_)))))))
   refine zz h fun q350 h => oV (zfC Tryd.underlying24 Tryd.underlying3 rfl q350) (oA rfl (rnf (zj (zgF 0 .here rfl (by first | rfl | simp) (fun o351 hn352 => ?_)))))
   refine zS (.v 0 (.v 1 (.v 2 (.v 3 (.v 4 (.v 5 (.v 6 (.v 7 (.v 8 (.v 9 (.v 10 (.t 11 (.v 12 (.v 13 .nil)))))))))))))) moOrd (by kernel_rfl) ?_
   refine rvm rfl rfl (rvm rfl rfl (rvm rfl rfl (rvm rfl rfl (zz h fun q353 h => zp rfl (zaL rfl rfl q353) (zb h fun y354 hy354 h => zp rfl (zeR (α := Int) sl22 rfl rfl hy354) (zp rfl (zeQ ty3 rfl zcA) ?_))))))
   refine rvm rfl rfl (rvm rfl rfl (zb h fun y355 hy355 h => zp rfl (zeR (α := Int) sl22 rfl rfl hy355) (zp rfl (zeQ ty3 rfl zcA) (zb h fun y356 hy356 h => zT rfl rfl (zeV rfl (s2 rfl rfl) (zdt hy356) hT .nil (fun R H' hR => ?_))))))
   obtain ⟨rfl, rfl⟩ := hR
   refine zp rfl (zai rfl rfl) (zp rfl (zbt rfl) (zac (zdf 0 hn352 rfl (zy (zg h rfl (fun _ h => ?_) (fun _ h => ?_))))))
   ·exact zh (oM rfl (zz h fun q357 h => oV (zaa rfl rfl q357) (oA rfl (zx (zi (hL290 _ () h _ (ze 32 rfl rfl (za (j := 20) rfl hI (za (j := 21) rfl hI (za (j := 0) rfl (vecvE (by first | rfl | simp)) zd))) k1)))))))
   exact zh (oM rfl (oA rfl (zx (zi (hL290 _ () h _ (ze 31 rfl rfl (za (j := 20) rfl hI (za (j := 21) rfl hI (za (j := 0) rfl (vecvE (by first | rfl | simp)) zd))) k1))))))
  refine zae (zU (eL290 _ _ (zF (zy (wsr (oM rfl (oM rfl (zz h fun q358 h => ?_))))))))
  refine oV (zaL rfl rfl q358) (oA rfl (rnf (zj (wsr (oM rfl (oM rfl (oV (zai rfl rfl) (oM rfl ?_))))))))
  refine zaz (jb 185) je .nil h 4 rfl (fun q359 g359 h => ?_) (fun J360 h hJ360 => ?_)
  ·refine rnf (zdx (ι := (List Int)) (γ := Unit) (fun q362 g362 => [(0, vecv zD (q362.length))]) (fun q362 g362 => [vecE zD (q362 : List Int)]) k1 h (fun q362 g362 h => ?_) (fun J363 h hJ363 => ?_))
   ·refine zj (wsr (oM rfl (oM rfl (oV (zai rfl rfl) (oM rfl (zaz (jb 199) je .nil h 4 rfl (fun q366 g366 h => ?_) (fun J367 h hJ367 => ?_)))))))
    ·refine rnf (zdx (ι := (List Int)) (γ := Unit) (fun q369 g369 => [(0, vecv zD (q369.length))]) (fun q369 g369 => [vecE zD (q369 : List Int)]) k1 h (fun q369 g369 h => ?_) (fun J370 h hJ370 => ?_))
     ·refine wsr (oM rfl (oM rfl (oV (zai rfl rfl) (oM rfl (zaz (jb 213) je .nil h 4 rfl (fun q373 g373 h => ?_) (fun J374 h hJ374 => ?_))))))
      ·refine rnf (zg h rfl (fun _ h => ?_) (fun _ h => ?_))
       ·refine zh (oM rfl (oM rfl (oM rfl (oM rfl (oM rfl (zb h fun y376 hy376 h => oT (zA (zcJ hy376) hT (.cons rfl (fun _ _ h => vecvE (by first | rfl | simp) _ _ h) (s4 rfl rfl rfl rfl)) k1 ?_)))))))
        refine zI h fun q377 h => zQ (zY 0 rfl (vecvE q377.symm)) (zQ (zY 214 rfl (vecvE q377.symm)) (zx (zam .nil k1 ?_)))
        cases h
        exact ⟨rfl, rfl⟩
       refine zab (zam .nil k1 ?_)
       cases h
       exact ⟨rfl, rfl⟩
      refine zC (j := 209) h rfl (fun g375 h => ?_) (fun g375 h => ?_)
      ·exact oK 209 rfl rfl rfl g375 (zq rfl) (oK 209 rfl rfl rfl g375 (zq rfl) (oK 209 rfl rfl rfl g375 (zai rfl rfl) (oV (zs rfl g375 rfl) (hJ374 _ () h _ (jk 4 213 rfl rfl rfl)))))
      exact oP 209 rfl rfl g375 (oP 209 rfl rfl g375 (oP 209 rfl rfl g375 (oV (zr rfl g375 rfl) (hJ374 _ () h _ (jk 4 213 rfl rfl rfl)))))
     refine zg h rfl (fun _ h => ?_) (fun _ h => ?_)
     ·refine zh (oM rfl (oM rfl (oM rfl (oM rfl (oM rfl (zb h fun y371 hy371 h => oT (zA (zcJ hy371) hT (.cons rfl (fun _ _ h => vecvE (by first | rfl | simp) _ _ h) (s4 rfl rfl rfl rfl)) k1 ?_)))))))
      exact zI h fun q372 h => zQ (zY 0 rfl (vecvE q372.symm)) (zQ (zY 200 rfl (vecvE q372.symm)) (zx (hJ370 _ () h _ (ze 8 rfl rfl (za (j := 0) rfl (vecvE (by first | rfl | simp)) zd) k1))))
     exact zab (hJ370 _ () h _ (ze 0 rfl rfl (za (j := 0) rfl (vecvE (by first | rfl | simp)) zd) k1))
    refine zC (j := 195) h rfl (fun g368 h => ?_) (fun g368 h => ?_)
    ·exact oK 195 rfl rfl rfl g368 (zq rfl) (oK 195 rfl rfl rfl g368 (zq rfl) (oK 195 rfl rfl rfl g368 (zai rfl rfl) (oV (zs rfl g368 rfl) (hJ367 _ () h _ (jk 4 199 rfl rfl rfl)))))
    exact oP 195 rfl rfl g368 (oP 195 rfl rfl g368 (oP 195 rfl rfl g368 (oV (zr rfl g368 rfl) (hJ367 _ () h _ (jk 4 199 rfl rfl rfl)))))
   refine zg h rfl (fun _ h => ?_) (fun _ h => ?_)
   ·refine zh (oM rfl (oM rfl (oM rfl (oM rfl (oM rfl (zb h fun y364 hy364 h => oT (zA (zeI hy364) hT (.cons rfl (fun _ _ h => vecvE (by first | rfl | simp) _ _ h) (s4 rfl rfl rfl rfl)) k1 ?_)))))))
    exact zI h fun q365 h => zQ (zY 0 rfl (vecvE q365.symm)) (zQ (zY 186 rfl (vecvE q365.symm)) (zx (hJ363 _ () h _ (ze 8 rfl rfl (za (j := 0) rfl (vecvE (by first | rfl | simp)) zd) k1))))
   exact zab (hJ363 _ () h _ (ze 0 rfl rfl (za (j := 0) rfl (vecvE (by first | rfl | simp)) zd) k1))
  refine zC (j := 181) h rfl (fun g361 h => ?_) (fun g361 h => ?_)
  ·exact oK 181 rfl rfl rfl g361 (zq rfl) (oK 181 rfl rfl rfl g361 (zq rfl) (oK 181 rfl rfl rfl g361 (zai rfl rfl) (oV (zs rfl g361 rfl) (hJ360 _ () h _ (jk 4 185 rfl rfl rfl)))))
  exact oP 181 rfl rfl g361 (oP 181 rfl rfl g361 (oP 181 rfl rfl g361 (oV (zr rfl g361 rfl) (hJ360 _ () h _ (jk 4 185 rfl rfl rfl)))))
 refine zg h rfl (fun _ h => ?_) (fun _ h => ?_)
 ·refine wsr (oM rfl (oM rfl (zz h fun q287 h => oV (zaL rfl rfl q287) (oA rfl (rnf (zh (oM rfl ?_)))))))
  exact oA rfl (zx (hJ286 _ () h _ (ze 6 rfl rfl (za (j := 20) rfl hI (za (j := 21) rfl hI zd)) k1)))
 exact wsr (oM rfl (oA rfl (rnf (zh (oM rfl (oA rfl (zx (hJ286 _ () h _ (ze 4 rfl rfl (za (j := 20) rfl hI (za (j := 21) rfl hI zd)) k1)))))))))

theorem zcc : ∀ n, zbM (zaN n)
 | 0 => fun h => (by cases h)
 | n + 1 => zec (zcc n)
theorem zcH (n : Nat) : zbM (zaN n) := (zcc n)

theorem zeJ : ∀ {zaf : (List Int)} {a_n_ : Int} {zR : GTyp} {zD : Vt} {r : (List Int)}, zbv zaf a_n_ zR = some r → Ctr Tryd.prog 93 [vecv zD (zaf.length), isv (a_n_), clov 44 [immv (zR)]] [vecE zD (zaf : List Int)] (fun R H => R = oneOf [] ∧ H = [vecE zD (r)]) := by
 intro zaf a_n_ zR zD r h
 unfold zbv at h
 refine zu Tryd.func93 rfl fun w0 S0 hT => wsr (oA rfl (rnf (wsr (oM rfl (oA rfl (oA rfl (rnf ?_)))))))
 refine zj (zt (zaQ (ι := (List Int) × Int × Int) (γ := Unit) (fun q1 g1 => [(7, isv (q1.2.1)), (8, isv (q1.2.2)), (0, vecv zD (q1.1.length))]) (fun q1 g1 => [vecE zD (q1.1 : List Int)]) h () (za (j := 7) rfl hI (za (j := 8) rfl hI (za (j := 0) rfl (vecvE (by first | rfl | simp)) zd))) k1 (fun L2 q1 g1 Q183 h hL2 eL2 rL2 => ?_)))
 refine zj (wsr (oM rfl (oM rfl (oV (zii rfl rfl) (rnf (zg h rfl (fun _ h => ?_) (fun _ h => ?_)))))))
 ·refine wkf (zt (wsr (oM rfl (oM rfl (oM rfl (oM rfl (zb h fun y123 hy123 h => oT (zA (zb8 hy123) hT (.cons rfl (fun _ _ h => vecvE (by first | rfl | simp) _ _ h) (s3 rfl rfl rfl)) k1 ?_))))))))
  refine zI h fun q124 h => zQ (zY 0 rfl (vecvE q124.symm)) (zQ (zY 14 rfl (vecvE q124.symm)) (rnf (wsr (oM rfl (oA rfl (rnf (zh ?_)))))))
  exact oM rfl (oM rfl (zz h fun q125 h => oV (zaa rfl rfl q125) (oA rfl (zx (zi (hL2 _ () h _ (ze 19 rfl rfl (za (j := 7) rfl hI (za (j := 8) rfl hI (za (j := 0) rfl (vecvE (by first | rfl | simp)) zd))) k1)))))))
 refine zae (zU (eL2 _ _ (zF (zy (wsr (oM rfl (oM rfl (oM rfl ?_))))))))
 refine oM rfl (zb h fun y126 hy126 h => oT (zA (zb8 hy126) hT (.cons rfl (fun _ _ h => vecvE (by first | rfl | simp) _ _ h) (s3 rfl rfl rfl)) k1 ?_))
 refine zI h fun q127 h => zQ (zY 0 rfl (vecvE q127.symm)) (zQ (zY 23 rfl (vecvE q127.symm)) (rnf (zt (zaQ (ι := (List Int) × Int) (γ := Unit) (fun q128 g128 => [(6, isv (q128.2)), (7, anyv), (8, anyv), (23, anyv), (0, vecv zD (q128.1.length))]) (fun q128 g128 => [vecE zD (q128.1 : List Int)]) h () (za (j := 6) rfl hI (za (j := 7) rfl (fun _ _ _ => trivial) (za (j := 8) rfl (fun _ _ _ => trivial) (za (j := 23) rfl (fun _ _ _ => trivial) (za (j := 0) rfl (vecvE (by first | rfl | simp)) zd))))) k1 (fun L129 q128 g128 Q182 h hL129 eL129 rL129 => ?_)))))
 refine zj (wsr (oM rfl (oM rfl (oV (zai rfl rfl) (rnf (zg h rfl (fun _ h => ?_) (fun _ h => ?_)))))))
 ·refine wkf (zt (wsr (oM rfl (zz h fun q156 h => oV (zjo rfl rfl q156) (oA rfl (oA rfl (rnf ?_)))))))
  refine zj (zt (zaQ (ι := (List Int) × Int × Int) (γ := Unit) (fun q157 g157 => [(7, isv (q157.2.1)), (8, isv (q157.2.2)), (0, vecv zD (q157.1.length))]) (fun q157 g157 => [vecE zD (q157.1 : List Int)]) h () (za (j := 7) rfl hI (za (j := 8) rfl hI (za (j := 0) rfl (vecvE (by first | rfl | simp)) zd))) k1 (fun L158 q157 g157 Q181 h hL158 eL158 rL158 => ?_)))
  refine zj (wsr (oM rfl (oM rfl (oV (zii rfl rfl) (rnf (zg h rfl (fun _ h => ?_) (fun _ h => ?_)))))))
  ·refine wkf (zt (wsr (oM rfl (oM rfl (oM rfl (oM rfl (zz h fun q170 h => oV (zaa rfl rfl q170) ?_)))))))
   refine oM rfl (oM rfl (zb h fun y171 hy171 h => oT (zA (zcH fuel hy171) hT (.cons rfl (fun _ _ h => vecvE (by first | rfl | simp) _ _ h) (s4 rfl rfl rfl rfl)) k1 ?_)))
   refine zI h fun q172 h => zQ (zY 0 rfl (vecvE q172.symm)) (zQ (zY 36 rfl (vecvE q172.symm)) (rnf (wsr (oM rfl (oA rfl (rnf (zh ?_)))))))
   refine oM rfl (oM rfl (zz h fun q173 h => oV (zjo rfl rfl q173) (zz h fun q174 h => oV (zaa rfl rfl q174) (oA rfl (zx (zi ?_))))))
   exact hL158 _ () h _ (ze 23 rfl rfl (za (j := 7) rfl hI (za (j := 8) rfl hI (za (j := 0) rfl (vecvE (by first | rfl | simp)) zd))) k1)
  refine zae (zU (eL158 _ _ (zF (zy (zj (wsr (oM rfl (oM rfl ?_))))))))
  refine zz h fun q175 h => oV (zaa rfl rfl q175) (oA rfl (rnf (wsr (oM rfl (oM rfl (oV (zai rfl rfl) (rnf ?_)))))))
  refine zdx (ι := (List Int)) (γ := Unit) (fun q176 g176 => [(0, vecv zD (q176.length))]) (fun q176 g176 => [vecE zD (q176 : List Int)]) k1 h (fun q176 g176 h => ?_) (fun J177 h hJ177 => ?_)
  ·exact zh (oM rfl (zz h fun q180 h => oV (zjo rfl rfl q180) (oA rfl (zx (zi (hL129 _ () h _ (ze 29 rfl rfl (za (j := 6) rfl hI (za (j := 7) rfl (fun _ _ _ => trivial) (za (j := 8) rfl (fun _ _ _ => trivial) (za (j := 23) rfl (fun _ _ _ => trivial) (za (j := 0) rfl (vecvE (by first | rfl | simp)) zd))))) k1)))))))
  refine zg h rfl (fun _ h => ?_) (fun _ h => ?_)
  ·refine zh (oM rfl (oM rfl (oM rfl (oM rfl (oM rfl (zb h fun y178 hy178 h => oT (zA (zcH fuel hy178) hT (.cons rfl (fun _ _ h => vecvE (by first | rfl | simp) _ _ h) (s4 rfl rfl rfl rfl)) k1 ?_)))))))
   exact zI h fun q179 h => zQ (zY 0 rfl (vecvE q179.symm)) (zQ (zY 55 rfl (vecvE q179.symm)) (zx (hJ177 _ () h _ (ze 8 rfl rfl (za (j := 0) rfl (vecvE (by first | rfl | simp)) zd) k1))))
  exact zab (hJ177 _ () h _ (ze 0 rfl rfl (za (j := 0) rfl (vecvE (by first | rfl | simp)) zd) k1))
 refine zae (zU (eL129 _ _ (zF (zam .nil k1 ?_))))
 cases h
 exact ⟨rfl, rfl⟩


theorem zdJ : ∀ {a_x : (List Int)} {zR : GTyp} {zhF : Vt} {r : (List Int)}, za7 a_x zR = some r → Ctr Tryd.prog 61 [vecv zhF (a_x.length), clov 44 [immv (zR)]] [vecE zhF (a_x : List Int)] (fun R H => R = oneOf [] ∧ H = [vecE zhF (r)]) := by
 intro a_x zR zhF r h
 unfold za7 at h
 refine zu Tryd.func61 rfl fun w0 S0 hT => zh (oM rfl (oM rfl (oV (zgv sl22 rfl) (oM rfl (zb h fun y1 hy1 h => oT (zA (zeJ hy1) hT (.cons rfl (fun _ _ h => vecvE (by first | rfl | simp) _ _ h) (s2 rfl rfl)) k1 ?_))))))
 refine zI h fun q2 h => zQ (zY 0 rfl (vecvE q2.symm)) (zQ (zY 4 rfl (vecvE q2.symm)) (zQ (zY 5 rfl (vecvE q2.symm)) (zx (zam .nil k1 ?_))))
 cases h
 exact ⟨rfl, rfl⟩


theorem zhY : ∀ {zcF : GTyp} {a_l : (List Int)} {zcg : (List Int)} {zc2 : Vt} {r : (List Int)}, zdj zcF a_l zcg = some r → Ctr Tryd.prog 38 [clov 44 [immv (zcF)], vecv zc2 (a_l.length), isv (zcg)] [vecE zc2 (a_l : List Int)] (fun R H => R = oneOf [isv (r)] ∧ H = []) := by
 intro zcF a_l zcg zc2 r h
 unfold zdj at h
 refine zu Tryd.func38 rfl fun w0 S0 hT => wsr (oA rfl (zQ (zeS (α := Int)) (zQ (zY 6 rfl nilvV) (rnf (wsr (oM rfl (oM rfl ?_)))))))
 refine zb h fun y2 hy2 h => oT (zA (zdJ hy2) hT (.cons rfl (fun _ _ h => vecvE (by first | rfl | simp) _ _ h) (s1 rfl)) (.cons tH .nil) ?_)
 refine zI h fun q3 h => zQ (zY 1 rfl (vecvE q3.symm)) (zQ (zY 7 rfl (vecvE q3.symm)) (rnf (wsr (oM rfl (oM rfl (zar h fun q5 h => oT (zgc (m := zcg) zdo rfl rfl hI .here (by first | rfl | simp) q5 fun v4 => ?_)))))))
 refine oA rfl (rnf (zK (zf7 (zeF 6 .here rfl (by first | rfl | simp)) ?_)))
 cases h
 exact zo (.tmp rfl .nil) .nil ⟨rfl, rfl⟩


theorem zjg : ∀ {a_t : GTab} {a_i : Int} {r : (List Int)}, zeE a_t a_i = some r → Ctr Tryd.prog 18 [isv (a_t), isv (a_i)] [] (fun R H => R = oneOf [isv (r)] ∧ H = []) := by
 intro a_t a_i r h
 unfold zeE at h
 refine zu Tryd.func18 rfl fun w0 S0 hT => wsr (oT (zbd (y := a_t) rfl hI (oA rfl (rnf (wsr (oV (zf ty40 rfl) (oM rfl (zb h fun y1 hy1 h => ?_))))))))
 refine oT (zA (zfE hy1) hT (s2 rfl rfl) .nil (oT (zag _ ze54 fun b2 => oT (zk (y' := (y1 : GTyp)) ty54 rfl rfl hI .here rfl (zQ (zas 5 .here rfl) (rnf (zj (wsr (oV (zZ rfl GTyp.f0 zet rfl (z := y1.kind)) (oV (zf ty3 rfl) ?_))))))))))
 refine oV (zbP rfl rfl) (rnf (zg h rfl (fun _ h => ?_) (fun _ h => ?_)))
 ·refine wsr (oA rfl (rnf (zK (zB ?_))))
  cases h
  exact zo (.as rfl (zdi (α := Int)) .nil) .nil ⟨rfl, rfl⟩
 refine wkf (wsr (oV (zZ rfl GTyp.f5 zeK rfl (z := y1.root)) (oV (zf ty3 rfl) (oV (znj rfl rfl) (oV (zZ rfl GTyp.f3 zfc rfl (z := y1.items)) (oV (zf ty51 rfl) (oV (zaR (l := y1.items) rfl hI sl51) (oV (znG rfl rfl) ?_))))))))
 refine oA rfl (rnf (zj (zS (.v 0 (.v 1 (.v 3 (.v 4 (.v 5 (.v 6 (.t 2 (.t 7 (.t 8 (.v 9 .nil)))))))))) moOrd (by kernel_rfl) ?_)))
 refine zp rfl (zhm (s1 rfl)) (rvm rfl rfl (rvm rfl rfl (zp rfl (zZ rfl GTyp.f3 zfc rfl (z := y1.items)) (zp rfl (zf ty51 rfl) (zp rfl (zaR (l := y1.items) rfl hI sl51) (zb h fun y3 hy3 h => zT rfl rfl (zM (zcM hy3) hT (s2 rfl rfl) .nil (fun R H' hR => ?_))))))))
 obtain ⟨v4, rfl, rfl⟩ := hR
 refine zb h fun y5 hy5 h => zT rfl rfl (zM (zcM hy5) hT (s2 rfl rfl) .nil (fun R H' hR => ?_))
 obtain ⟨v6, rfl, rfl⟩ := hR
 refine zbj (zeF 27 .here rfl (by first | rfl | simp)) ?_
 refine zb h fun y7 hy7 h => zT rfl rfl (zA (zhY hy7) hT (.same rfl (.cons rfl (fun _ _ h => vecvE (by first | rfl | simp) _ _ h) (s1 rfl))) k1 ?_)
 refine zp rfl (zaX rfl) (zac (zy (zK ?_)))
 cases h
 exact zo (.tmp rfl .nil) .nil ⟨rfl, rfl⟩


theorem zji : ∀ {a_t : GTab} {a_i : Int} {r : (List (List Int))}, zeC a_t a_i = some r → Ctr Tryd.prog 17 [isv (a_t), isv (a_i)] [] (fun R H => R = oneOf [isv (r)] ∧ H = []) := by
 intro a_t a_i r h
 unfold zeC at h
 refine zu Tryd.func17 rfl fun w0 S0 hT => wsr (oT (zbd (y := a_t) rfl hI (oA rfl (zQ (za1) (zQ (zeS (α := NL Int)) (zQ (zY 4 rfl nilvV) (rnf (wsr ?_))))))))
 refine oV (zf ty40 rfl) (oM rfl (zb h fun y3 hy3 h => oT (zA (zfE hy3) hT (s2 rfl rfl) .nil (oT (zag _ ze54 fun b4 => oT (zk (y' := (y3 : GTyp)) ty54 rfl rfl hI .here rfl (zQ (zas 5 .here rfl) (rnf (zj ?_)))))))))
 refine wsr (oV (zZ rfl GTyp.f0 zet rfl (z := y3.kind)) (oV (zf ty3 rfl) (oV (zbP rfl rfl) (oM rfl (zaz (jb 21) je .nil h 4 rfl (fun q5 g5 h => ?_) (fun J6 h hJ6 => ?_))))))
 ·refine oM rfl (zaz (jb 26) je .nil h 4 rfl (fun q8 g8 h => ?_) (fun J9 h hJ9 => ?_))
  ·refine rnf (zg h rfl (fun _ h => ?_) (fun _ h => ?_))
   ·refine wsr (oA rfl (zQ (za1) (zQ (zeS (α := NL Int)) (zQ (zY 4 rfl nilvV) (rnf (zK (zB (zf7 (zeF 4 .here rfl (by first | rfl | simp)) ?_))))))))
    refine zf7 (zY 4 rfl (zkN (t := none) (L := (([] : (List (List Int))) : List (List Int))))) ?_
    cases h
    exact zo (.tmp rfl .nil) .nil ⟨rfl, rfl⟩
   refine wkf (wsr (oA rfl (zQ (za1) (zQ (zeS (α := NL Int)) (zQ (zY 6 rfl nilvV) (rnf (zj (wsr ?_))))))))
   refine oV (zZ rfl GTyp.f5 zeK rfl (z := y3.root)) (oV (zf ty3 rfl) (oV (znj rfl rfl) (oV (zZ rfl GTyp.f4 zbE rfl (z := y3.fields)) (oV (zf ty52 rfl) (oV (zaR (l := y3.fields) rfl hI sl52) (zb h fun y15 hy15 h => oT (zM (zcM hy15) hT (s2 rfl rfl) .nil (fun R H' hR => ?_))))))))
   obtain ⟨v16, rfl, rfl⟩ := hR
   refine oV (zgv sl22 rfl) (oM rfl (rnf (zt (zaQ (ι := (List (List Int)) × Int) (γ := Vt × Tok) (fun q17 g17 => [(6, vecv g17.1 (q17.1.length)), (35, isv (q17.2))]) (fun q17 g17 => [vecE g17.1 (nestL g17.2 (q17.1 : List (List Int))), tokE g17.2]) h (none, none) (za (j := 6) rfl (vecvE (by first | rfl | simp)) (za (j := 35) rfl hI zd)) (.cons tH (.cons tH .nil)) (fun L18 q17 g17 Q79 h hL18 eL18 rL18 => ?_)))))
   refine wsr (oV (zai rfl rfl) (rnf (zj (zg h rfl (fun _ h => ?_) (fun _ h => ?_)))))
   ·refine wkf (zj (zdx (ι := (List (List Int))) (γ := Vt × Tok) (fun q49 g49 => [(6, vecv g49.1 (q49.length))]) (fun q49 g49 => [vecE g49.1 (nestL g49.2 (q49 : List (List Int))), tokE g49.2]) k2 h (fun q49 g49 h => ?_) (fun J50 h hJ50 => ?_)))
    ·exact zh (zz h fun q78 h => oV (zaa rfl rfl q78) (oM rfl (zx (hL18 _ (g49.1, g49.2) h _ (ze 6 rfl rfl (za (j := 6) rfl (vecvE (by first | rfl | simp)) (za (j := 35) rfl hI zd)) (.cons .here k4))))))
    refine zt (wsr (zI h fun q51 h => oV (zan (α := Int) sl22 rfl rfl q51.1 q51.2) (zb h fun y52 hy52 h => oT (zax ty3 rfl tI hy52 ?_))))
    refine oA rfl (rnf (wsr (oM rfl (oV (zgv sl45 rfl) (zz h fun q53 h => oV (zaL rfl rfl q53) (oA rfl (rnf ?_)))))))
    refine zj (wsr (oV (zZ rfl GTyp.f4 zbE rfl (z := y3.fields)) (oV (zf ty52 rfl) (oM rfl (zb h fun y54 hy54 h => oV (zaB (l := y3.fields) rfl hI rfl sl52 hy54) (oV (zZ rfl GFld.f5 zlt rfl (z := y54.group)) (oV (zf ty3 rfl) ?_)))))))
    refine oA rfl (rnf (wsr (oV (zZ rfl GTyp.f0 zet rfl (z := y3.kind)) (oV (zf ty3 rfl) (oV (zbP rfl rfl) (oM rfl (zaz (jb 54) je .nil h 3 rfl (fun q55 g55 h => ?_) (fun J56 h hJ56 => ?_))))))))
    ·refine oM rfl (zaz (jb 58) je .nil h 3 rfl (fun q58 g58 h => ?_) (fun J59 h hJ59 => ?_))
     ·refine oM rfl (zaz (jb 69) je .nil h 10 rfl (fun q61 g61 h => ?_) (fun J62 h hJ62 => ?_))
      ·refine rnf (zg h rfl (fun _ h => ?_) (fun _ h => ?_))
       ·refine wsr (oM rfl (oM rfl (oM rfl (oM rfl (zI h fun q66 h => oV (zan (α := NL Int) sl45 rfl rfl q66.1 q66.2) (zI h fun q67 h => zb h fun y68 hy68 h => ?_))))))
        refine oT (zax ty22 rfl .here (zhn q67 hy68) ?_)
        refine zQ (zY 75 rfl zpe) (oM rfl (oT (zad (l := ([y52] : (List Int))) el22 (.cons rfl hI .nil) rfl rfl (zar h fun q71 h => oT (zbs (l := y68) (m := ([y52] : (List Int))) zdo rfl hI rfl zO tH q71 fun t70 => zI h fun q72 h => oV (zan (α := NL Int) sl45 rfl rfl q72.1 q72.2) (zI h fun q73 h => zb h fun y74 hy74 h => ?_))))))
        refine zQ (zY 78 rfl zoi) (oT (zat ty22 rfl rfl tH (zhn q73 hy74) (zQ (znh .here (zjm q73)) (zQ (zY (R' := vecv g17.1 (q17.1.set ((((q17.1.length : Nat) : Int) - (1 : Int)).toNat) (y68 ++ ([y52] : (List Int)))).length) 6 rfl (vecvE (by simp))) ?_))))
        refine zQ (zY (R' := vecv g17.1 (q17.1.set ((((q17.1.length : Nat) : Int) - (1 : Int)).toNat) (y68 ++ ([y52] : (List Int)))).length) 39 rfl (vecvE (by simp))) ?_
        refine zQ (zY (R' := vecv g17.1 (q17.1.set ((((q17.1.length : Nat) : Int) - (1 : Int)).toNat) (y68 ++ ([y52] : (List Int)))).length) 70 rfl (vecvE (by simp))) ?_
        refine zQ (zY (R' := vecv g17.1 (q17.1.set ((((q17.1.length : Nat) : Int) - (1 : Int)).toNat) (y68 ++ ([y52] : (List Int)))).length) 72 rfl (vecvE (by simp))) ?_
        exact rnf (zae (zU (zF (hJ50 _ (g17.1, t70) h _ (ze 39 rfl rfl (za (j := 6) rfl (vecvE (by first | rfl | simp)) zd) (.cons .here k4))))))
       refine wkf (zh (oM rfl (oM rfl (oT (zad (l := ([y52] : (List Int))) el22 (.cons rfl hI .nil) rfl rfl (zQ (za1) (oT (zad (l := [NL.mk (([y52] : (List Int))) (some none)]) el45 (.cons rfl zoi .nil) rfl rfl (zar h fun q77 h => oT (zgc (m := [NL.mk (([y52] : (List Int))) (some none)]) zl2 rfl rfl zO tH (by first | rfl | simp) (by rw [zeb]; exact q77) fun v76 => ?_))))))))))
       refine zQ (znf .here) (zQ (zY (R' := vecv v76 (q17.1 ++ [([y52] : (List Int))]).length) 84 rfl (vecvE (by simp))) ?_)
       exact oA rfl (zx (zi (hJ50 _ (v76, none) h _ (ze 30 rfl rfl (za (j := 6) rfl (vecvE (by first | rfl | simp)) zd) (.cons .here (.cons .here (.cons tH (.cons tH (.cons tH .nil)))))))))
      refine zC (j := 59) h rfl (fun g63 h => ?_) (fun g63 h => ?_)
      ·refine oK 59 rfl rfl rfl g63 (zZ rfl GTyp.f4 zbE rfl (z := y3.fields)) (oK 59 rfl rfl rfl g63 (zf ty52 rfl) (oK 59 rfl rfl rfl g63 (zq rfl) (zz h fun q64 h => oK 59 rfl rfl rfl g63 (zaL rfl rfl q64) (zb h fun y65 hy65 h => oK 59 rfl rfl rfl g63 (zaB (l := y3.fields) rfl hI rfl sl52 hy65) (oK 59 rfl rfl rfl g63 (zZ rfl GFld.f5 zlt rfl (z := y65.group)) (oK 59 rfl rfl rfl g63 (zf ty3 rfl) ?_))))))
       exact oK 59 rfl rfl rfl g63 (zq rfl) (oK 59 rfl rfl rfl g63 (zao rfl rfl) (oV (zs rfl g63 rfl) (hJ62 _ () h _ (ze 10 rfl rfl (za (j := 69) rfl hI zd) (.cons .here k4)))))
      refine oP 59 rfl rfl g63 (oP 59 rfl rfl g63 (oP 59 rfl rfl g63 (oP 59 rfl rfl g63 (oP 59 rfl rfl g63 (oP 59 rfl rfl g63 (oP 59 rfl rfl g63 (oP 59 rfl rfl g63 (oP 59 rfl rfl g63 ?_))))))))
      exact oV (zr rfl g63 rfl) (hJ62 _ () h _ (ze 10 rfl rfl (za (j := 69) rfl hI zd) (.cons .here k4)))
     refine zC (j := 55) h rfl (fun g60 h => ?_) (fun g60 h => ?_)
     ·exact oK 55 rfl rfl rfl g60 (zq rfl) (oK 55 rfl rfl rfl g60 (zed rfl rfl) (oV (zs rfl g60 rfl) (hJ59 _ () h _ (ze 3 rfl rfl (za (j := 58) rfl hI zd) (.cons .here k4)))))
     exact oP 55 rfl rfl g60 (oP 55 rfl rfl g60 (oV (zr rfl g60 rfl) (hJ59 _ () h _ (ze 3 rfl rfl (za (j := 58) rfl hI zd) (.cons .here k4)))))
    refine zC (j := 51) h rfl (fun g57 h => ?_) (fun g57 h => ?_)
    ·exact oK 51 rfl rfl rfl g57 (zq rfl) (oK 51 rfl rfl rfl g57 (zbu rfl rfl) (oV (zs rfl g57 rfl) (hJ56 _ () h _ (ze 3 rfl rfl (za (j := 54) rfl hI zd) (.cons .here k4)))))
    exact oP 51 rfl rfl g57 (oP 51 rfl rfl g57 (oV (zr rfl g57 rfl) (hJ56 _ () h _ (ze 3 rfl rfl (za (j := 54) rfl hI zd) (.cons .here k4)))))
   refine zae (zU (eL18 _ _ (zF (zy (wsr (oM rfl (oA rfl (rnf ?_))))))))
   refine zK (zf7 (zeF 4 .here rfl (by first | rfl | simp)) ?_)
   refine zf7 (zY 4 rfl (zkN (t := g17.2) (L := (q17.1 : List (List Int))))) ?_
   cases h
   exact zo (.tmp rfl .nil) .nil ⟨rfl, rfl⟩
  refine zC (j := 22) h rfl (fun g10 h => ?_) (fun g10 h => ?_)
  ·exact oK 22 rfl rfl rfl g10 (zZ rfl GTyp.f0 zet rfl (z := y3.kind)) (oK 22 rfl rfl rfl g10 (zf ty3 rfl) (oK 22 rfl rfl rfl g10 (zbP rfl rfl) (oV (zs rfl g10 rfl) (hJ9 _ () h _ (ze 4 rfl rfl (za (j := 26) rfl hI zd) k2)))))
  exact oP 22 rfl rfl g10 (oP 22 rfl rfl g10 (oP 22 rfl rfl g10 (oV (zr rfl g10 rfl) (hJ9 _ () h _ (ze 4 rfl rfl (za (j := 26) rfl hI zd) k2)))))
 refine zC (j := 17) h rfl (fun g7 h => ?_) (fun g7 h => ?_)
 ·exact oK 17 rfl rfl rfl g7 (zZ rfl GTyp.f0 zet rfl (z := y3.kind)) (oK 17 rfl rfl rfl g7 (zf ty3 rfl) (oK 17 rfl rfl rfl g7 (zbP rfl rfl) (oV (zs rfl g7 rfl) (hJ6 _ () h _ (ze 4 rfl rfl (za (j := 21) rfl hI zd) k2)))))
 exact oP 17 rfl rfl g7 (oP 17 rfl rfl g7 (oP 17 rfl rfl g7 (oV (zr rfl g7 rfl) (hJ6 _ () h _ (ze 4 rfl rfl (za (j := 21) rfl hI zd) k2)))))


def zfg (f' : (List GTyp) → Int → Option ((List Tag))) : Prop :=
 ∀ {a_l : (List GTyp)} {a_i : Int} {r : (List Tag)}, f' a_l a_i = some r → Ctr Tryd.prog 66 [isv (a_l), isv (a_i)] [] (fun R H => R = oneOf [isv (r)] ∧ H = [])
theorem zin {zex : (List GTyp) → Int → Option ((List Tag))} (ziY : zfg zex) : ∀ {a_l : (List GTyp)} {a_i : Int} {r : (List Tag)}, zdl zex a_l a_i = some r → Ctr Tryd.prog 66 [isv (a_l), isv (a_i)] [] (fun R H => R = oneOf [isv (r)] ∧ H = []) := by
 intro a_l a_i r h
 unfold zdl at h
 refine zu Tryd.func66 rfl fun w0 S0 hT => wsr (oA rfl (rnf (zj (wsr (oM rfl (oM rfl (zb h fun y1 hy1 h => ?_)))))))
 refine oV (zaB (l := a_l) rfl hI rfl sl38 hy1) (oV (zZ rfl GTyp.f1 zeH rfl (z := y1.tags)) (oV (zf ty48 rfl) (oV (zaR (l := y1.tags) rfl hI sl48) (oV (zbu rfl rfl) (rnf (zg h rfl (fun _ h => ?_) (fun _ h => ?_)))))))
 ·refine wsr (oM rfl (oM rfl (zb h fun y2 hy2 h => oV (zaB (l := a_l) rfl hI rfl sl38 hy2) (oV (zZ rfl GTyp.f1 zeH rfl (z := y2.tags)) (oV (zf ty48 rfl) (zI h fun q3 h => oV (zfz (l := y2.tags) rfl hI sl48 (.inl ⟨rfl, rfl⟩) (.inr ⟨_, rfl, rfl⟩) q3.1 q3.2.1 q3.2.2) ?_))))))
  refine oA rfl (rnf (zK (zB ?_)))
  cases h
  exact zo (.tmp rfl .nil) .nil ⟨rfl, rfl⟩
 refine wkf (wsr (oA rfl (rnf (zj (wsr (oA rfl (rnf (zt ?_))))))))
 refine zgq (za1) (zaQ (ι := (List Tag) × Int) (γ := Tok) (fun q4 g4 => [(5, appv g4 (q4.1)), (6, isv (q4.2))]) (fun q4 g4 => [tokE g4]) h (none) (za (j := 5) rfl zbA (za (j := 6) rfl hI zd)) k1 (fun L5 q4 g4 Q21 h hL5 eL5 rL5 => zj (wsr (oM rfl (oM rfl (oM rfl (zb h fun y13 hy13 h => oV (zaB (l := a_l) rfl hI rfl sl38 hy13) ?_)))))))
 refine oV (zZ rfl GTyp.f4 zbE rfl (z := y13.fields)) (oV (zf ty52 rfl) (oV (zaR (l := y13.fields) rfl hI sl52) (oV (zai rfl rfl) (rnf (zg h rfl (fun _ h => ?_) (fun _ h => ?_))))))
 ·refine wkf (zj (zt (zh (oM rfl (oM rfl (oM rfl (oM rfl (zb h fun y14 hy14 h => ?_))))))))
  refine oV (zaB (l := a_l) rfl hI rfl sl38 hy14) (oV (zZ rfl GTyp.f4 zbE rfl (z := y14.fields)) (oV (zf ty52 rfl) (oM rfl (zb h fun y15 hy15 h => oV (zaB (l := y14.fields) rfl hI rfl sl52 hy15) (oV (zZ rfl GFld.f1 zc6 rfl (z := y15.ty)) (oV (zf ty3 rfl) (zb h fun y16 hy16 h => ?_)))))))
  refine oT (zA (ziY hy16) hT (s2 rfl rfl) .nil (zar h fun q18 h => oT (zbs (l := q4.1) (m := y16) zft rfl hI rfl hI .here q18 fun t17 => oA rfl (zx (zi (zy (zh (oM rfl ?_))))))))
  exact zz h fun q19 h => oV (zaa rfl rfl q19) (oA rfl (zx (hL5 _ (t17) h _ (ze 27 rfl rfl (za (j := 5) rfl hI (za (j := 6) rfl hI zd)) k1))))
 refine zae (zU (eL5 _ _ (zF (zy (wsr (oM rfl (oA rfl (rnf ?_))))))))
 refine zK ?_
 cases h
 exact zo (.as rfl zO .nil) .nil ⟨rfl, rfl⟩

theorem zfd : ∀ n, zfg (zdX n)
 | 0 => fun h => (by cases h)
 | n + 1 => zin (zfd n)
theorem ziz (n : Nat) : zfg (zdX n) := (zfd n)

theorem zjF : ∀ {a_t : GTab} {a_i : Int} {r : (List Tag)}, ze7 a_t a_i = some r → Ctr Tryd.prog 46 [isv (a_t), isv (a_i)] [] (fun R H => R = oneOf [isv (r)] ∧ H = []) := by
 intro a_t a_i r h
 unfold ze7 at h
 refine zu Tryd.func46 rfl fun w0 S0 hT => wsr (oT (zbd (y := a_t) rfl hI (oA rfl (rnf (zj (wsr (oM rfl (oV (zai rfl rfl) ?_))))))))
 refine oM rfl (zaz (jb 13) je .nil h 6 rfl (fun q1 g1 h => ?_) (fun J2 h hJ2 => ?_))
 ·refine rnf (zg h rfl (fun _ h => ?_) (fun _ h => ?_))
  ·refine wsr (oA rfl (rnf (zK (zB ?_))))
   cases h
   exact zo (.as rfl (zdi (α := Tag)) .nil) .nil ⟨rfl, rfl⟩
  refine wkf (wsr (oV (zZ rfl GTab.f3 zf5 rfl (z := a_t.types)) (oV (zf ty38 rfl) (oM rfl (zb h fun y4 hy4 h => oT (zA (ziz fuel hy4) hT (s2 rfl rfl) .nil (zar h fun q6 h => oT (zj5 (m := y4) zft rfl rfl hI q6 fun t5 => ?_))))))))
  refine oA rfl (rnf (zK ?_))
  cases h
  exact zo (.as rfl zO .nil) .nil ⟨rfl, rfl⟩
 refine zC (j := 7) h rfl (fun g3 h => ?_) (fun g3 h => ?_)
 ·exact oP 7 rfl rfl g3 (oP 7 rfl rfl g3 (oP 7 rfl rfl g3 (oP 7 rfl rfl g3 (oP 7 rfl rfl g3 (oV (zs rfl g3 rfl) (hJ2 _ () h _ (ji 6 13 rfl rfl rfl)))))))
 exact oK 7 rfl rfl rfl g3 (zq rfl) (oK 7 rfl rfl rfl g3 (zZ rfl GTab.f3 zf5 rfl (z := a_t.types)) (oK 7 rfl rfl rfl g3 (zf ty38 rfl) (oK 7 rfl rfl rfl g3 (zaR (l := a_t.types) rfl hI sl38) (oK 7 rfl rfl rfl g3 (zed rfl rfl) (oV (zr rfl g3 rfl) (hJ2 _ () h _ (ji 6 13 rfl rfl rfl)))))))


theorem zix : ∀ {a_a : Tag} {a_b : Tag} {r : Bool}, zfP a_a a_b = some r → Ctr Tryd.prog 19 [isv (a_a), isv (a_b)] [] (fun R H => R = oneOf [isv (r)] ∧ H = []) := by
 intro a_a a_b r h
 unfold zfP at h
 refine zu Tryd.func19 rfl fun w0 S0 hT => wsr (oT (zbd (y := a_a) rfl hI (oT (zbd (y := a_b) rfl hI (oA rfl (rnf (wsr (oV (zZ rfl Tag.f0 zgh rfl (z := a_a.cls)) (oV (zf ty3 rfl) ?_)))))))))
 refine oV (zZ rfl Tag.f0 zgh rfl (z := a_b.cls)) (oV (zf ty3 rfl) (oV (zai rfl rfl) (oM rfl (zaz (jb 23) je .nil h 13 rfl (fun q1 g1 h => ?_) (fun J2 h hJ2 => ?_)))))
 ·refine oA rfl (rnf (zK ?_))
  cases h
  exact zo (.tmp rfl .nil) .nil ⟨rfl, rfl⟩
 refine zC (j := 10) h rfl (fun g3 h => ?_) (fun g3 h => ?_)
 ·refine oP 10 rfl rfl g3 (oP 10 rfl rfl g3 (oP 10 rfl rfl g3 (oP 10 rfl rfl g3 (oP 10 rfl rfl g3 (oP 10 rfl rfl g3 (zE rfl (dj := 16) rfl (zE rfl (dj := 16) rfl (zE rfl (dj := 16) rfl ?_))))))))
  exact zE rfl (dj := 16) rfl (zE rfl (dj := 16) rfl (oP 10 rfl rfl g3 (oV (zs rfl g3 rfl) (hJ2 _ () h _ (ji 13 23 rfl rfl rfl)))))
 refine oK 10 rfl rfl rfl g3 (zZ rfl Tag.f0 zgh rfl (z := a_a.cls)) (oK 10 rfl rfl rfl g3 (zf ty3 rfl) (oK 10 rfl rfl rfl g3 (zZ rfl Tag.f0 zgh rfl (z := a_b.cls)) (oK 10 rfl rfl rfl g3 (zf ty3 rfl) (oK 10 rfl rfl rfl g3 (zao rfl rfl) (oK 10 rfl rfl rfl g3 (zq rfl) (zaz (jb 22) je .nil h 6 rfl (fun q4 g4 h => ?_) (fun J5 h hJ5 => ?_)))))))
 ·exact oV (zr rfl g3 rfl) (hJ2 _ () h _ (ji 8 23 rfl rfl rfl))
 refine zC (j := 16) h rfl (fun g6 h => ?_) (fun g6 h => ?_)
 ·exact oK 16 rfl rfl rfl g6 (zZ rfl Tag.f1 zem rfl (z := a_a.num)) (oK 16 rfl rfl rfl g6 (zf ty3 rfl) (oK 16 rfl rfl rfl g6 (zZ rfl Tag.f1 zem rfl (z := a_b.num)) (oK 16 rfl rfl rfl g6 (zf ty3 rfl) (oK 16 rfl rfl rfl g6 (zai rfl rfl) (oK 10 rfl rfl rfl g3 (zs rfl g6 rfl) (hJ5 _ () h _ (ji 6 22 rfl rfl rfl)))))))
 exact oP 16 rfl rfl g6 (oP 16 rfl rfl g6 (oP 16 rfl rfl g6 (oP 16 rfl rfl g6 (oP 16 rfl rfl g6 (oK 10 rfl rfl rfl g3 (zr rfl g6 rfl) (hJ5 _ () h _ (ji 6 22 rfl rfl rfl)))))))


theorem zif : ∀ {a_t : GTab} {a_i : Int} {r : Tag}, zeW a_t a_i = some r → Ctr Tryd.prog 20 [isv (a_t), isv (a_i)] [] (fun R H => R = oneOf [isv (r)] ∧ H = []) := by
 intro a_t a_i r h
 unfold zeW at h
 refine zu Tryd.func20 rfl fun w0 S0 hT => wsr (oT (zbd (y := a_t) rfl hI (oT (zag _ ze57 fun b1 => rnf (wsr (oV (zf ty40 rfl) (oM rfl (zb h fun y2 hy2 h => ?_))))))))
 refine oT (zA (zjF hy2) hT (s2 rfl rfl) .nil (oA rfl (rnf (wsr (oT (zag _ ze57 fun b3 => rnf (zj (wsr (oA rfl ?_)))))))))
 refine rnf (zt (zaQ (ι := Int × Tag) (γ := Unit) (fun q4 g4 => [(6, ptrv b3 (Fld.id Tag)), (7, isv (q4.1))]) (fun q4 g4 => [boxE b3 (q4.2 : Tag)]) h () (za (j := 6) rfl hI (za (j := 7) rfl hI zd)) k1 (fun L5 q4 g4 Q28 h hL5 eL5 rL5 => zj (wsr (oM rfl (oM rfl (oV (zaR (l := y2) rfl hI sl48) (oV (zai rfl rfl) ?_))))))))
 refine rnf (zg h rfl (fun _ h => ?_) (fun _ h => ?_))
 ·refine wkf (zj (zdx (ι := Tag) (γ := Unit) (fun q17 g17 => [(6, ptrv b3 (Fld.id Tag))]) (fun q17 g17 => [boxE b3 (q17 : Tag)]) k1 h (fun q17 g17 h => ?_) (fun J18 h hJ18 => ?_)))
  ·exact zh (oM rfl (zz h fun q27 h => oV (zaa rfl rfl q27) (oA rfl (zx (hL5 _ () h _ (ze 10 rfl rfl (za (j := 6) rfl hI (za (j := 7) rfl hI zd)) k2))))))
  refine zt (zj (zc7 6 .here rfl (fun o19 hn20 => zS (.v 0 (.v 1 (.v 2 (.v 3 (.v 4 (.v 5 (.v 6 (.v 7 (.t 8 (.v 9 .nil)))))))))) moOrd (by kernel_rfl) ?_)))
  refine rvm rfl rfl (zp rfl (zao rfl rfl) (rvm rfl rfl (zcV (jb 26) je .nil h 7 rfl (fun q21 g21 h => ?_) (fun J22 h hJ22 => ?_))))
  ·refine zac (zaP 6 hn20 rfl (zy (zg h rfl (fun _ h => ?_) (fun _ h => ?_))))
   ·refine zh (oM rfl (oM rfl (zb h fun y26 hy26 h => oV (zaB (l := y2) rfl hI rfl sl48 hy26) (oV (zf ty57 rfl) (oT (zk (y' := (y26 : Tag)) ty57 rfl rfl hI .here rfl (zx (zi ?_))))))))
    exact hJ18 _ () h _ (ze 10 rfl rfl (za (j := 6) rfl hI zd) k2)
   exact zab (zi (hJ18 _ () h _ (ze 6 rfl rfl (za (j := 6) rfl hI zd) k2)))
  refine zav (j := 19) h rfl (fun g23 h => ?_) (fun g23 h => ?_)
  ·exact rpv 19 rfl rfl rfl g23 (rpv 19 rfl rfl rfl g23 (rpv 19 rfl rfl rfl g23 (rpv 19 rfl rfl rfl g23 (rpv 19 rfl rfl rfl g23 (zb6 rfl rfl (dj := 19) rfl g23 (zp rfl (zs rfl g23 rfl) (hJ22 _ () h _ (jk 7 26 rfl rfl rfl))))))))
  refine rvt 19 rfl rfl rfl g23 (zq rfl) (rvt 19 rfl rfl rfl g23 (zq rfl) (zb h fun y24 hy24 h => rvt 19 rfl rfl rfl g23 (zaB (l := y2) rfl hI rfl sl48 hy24) (rvt 19 rfl rfl rfl g23 (zf ty57 rfl) (rvt 19 rfl rfl rfl g23 (zdh (R := isv (q4.2)) ty57 rfl (List.Mem.head _) hI) (zb h fun y25 hy25 h => zeP rfl rfl rfl (dj := 19) rfl g23 (zA (zix hy25) hT (s2 rfl rfl) .nil (zp rfl (zr rfl g23 rfl) ?_)))))))
  exact hJ22 _ () h _ (jk 7 26 rfl rfl rfl)
 refine zae (zU (eL5 _ _ (zF (zy (wsr (oT (zL (R := isv (q4.2)) ty57 rfl .here hI (oT (zk (y' := (q4.2 : Tag)) ty57 rfl rfl hI tH rfl (rnf ?_))))))))))
 refine zK ?_
 cases h
 exact zo (.cell rfl .here ty57 .nil) .nil ⟨rfl, rfl⟩

end Go.Proofs.Q


namespace Go.Proofs.Q
open Go.Sy
set_option maxRecDepth 4000
theorem zhK : ∀ {za0 : Str} {a_i : Int} {r : Bool}, zdB za0 a_i = some r → Ctr Tryd.prog 6 [isv (za0), isv (a_i)] [] (fun R H => R = oneOf [isv (r)] ∧ H = []) := by
 intro za0 a_i r h
 unfold zdB at h
 refine zu Tryd.func6 rfl fun w0 S0 hT => wsr (oA rfl (rnf (wsr (oM rfl (zb h fun y1 hy1 h => oT (zA (zfw hy1) hT (s1 rfl) .nil (oM rfl ?_)))))))
 refine oV (zaD rfl rfl) (oV (zaD rfl rfl) (oT (zag _ ze40 fun b2 => oT (zk (y' := (y1.1 : GTab)) ty40 rfl rfl hI .here rfl (zQ (zas 5 .here rfl) (oA rfl (rnf (zj (wsr ?_)))))))))
 refine oM rfl (oV (zbt rfl) (oM rfl (zaz (jb 26) je .nil h 3 rfl (fun q3 g3 h => ?_) (fun J4 h hJ4 => ?_))))
 ·refine oM rfl (zaz (jb 33) je .nil h 6 rfl (fun q6 g6 h => ?_) (fun J7 h hJ7 => ?_))
  ·refine rnf (zg h rfl (fun _ h => ?_) (fun _ h => ?_))
   ·refine wsr (zb h fun y9 hy9 h => oT (zA (zhb hy9) hT .nil .nil (oA rfl (rnf (zK (zB ?_))))))
    cases h
    exact zo (.tmp rfl .nil) .nil ⟨rfl, rfl⟩
   refine wkf (wsr (oV (zZ rfl GTab.f3 zf5 rfl (z := y1.1.types)) (oV (zf ty38 rfl) (oM rfl (zb h fun y10 hy10 h => oV (zaB (l := y1.1.types) rfl hI rfl sl38 hy10) (oV (zf ty54 rfl) (oT (zag _ ze54 fun b11 => ?_))))))))
   refine oT (zk (y' := (y10 : GTyp)) ty54 rfl rfl hI .here rfl (zQ (zas 7 .here rfl) (rnf (zj (zS (.v 0 (.v 1 (.v 3 (.v 4 (.v 6 (.v 7 (.t 2 (.t 5 (.t 8 (.v 9 (.v 10 (.v 11 .nil)))))))))))) moOrd (by kernel_rfl) ?_)))))
   refine zp rfl (zf ty40 rfl) (rvm rfl rfl (zp rfl (zf ty40 rfl) (rvm rfl rfl (zp rfl (zf ty40 rfl) (rvm rfl rfl (zb h fun y12 hy12 h => zT rfl rfl (zA (zgI hy12) hT (s2 rfl rfl) .nil (zb h fun y13 hy13 h => ?_))))))))
   refine zT rfl rfl (zA (zjg hy13) hT (s2 rfl rfl) .nil (zb h fun y14 hy14 h => zT rfl rfl (zA (zji hy14) hT (s2 rfl rfl) .nil (zp rfl (zaX rfl) (zp rfl (zaX rfl) (zp rfl (zaX rfl) (zac (zy (zj ?_)))))))))
   refine wsr (zb h fun y15 hy15 h => oT (zA (zhb hy15) hT .nil .nil (oV (zbt rfl) (oM rfl (zaz (jb 58) je .nil h 7 rfl (fun q16 g16 h => ?_) (fun J17 h hJ17 => ?_))))))
   ·refine oM rfl (zaz (jb 66) je .nil h 7 rfl (fun q19 g19 h => ?_) (fun J20 h hJ20 => ?_))
    ·refine rnf (zg h rfl (fun _ h => ?_) (fun _ h => ?_))
     ·refine wsr (oA rfl (rnf (zK (zB ?_))))
      cases h
      exact zo (.tmp rfl .nil) .nil ⟨rfl, rfl⟩
     refine wkf (zj (wsr (oA rfl (rnf (zt (zaQ (ι := Int) (γ := Unit) (fun q22 g22 => [(11, isv (q22))]) (fun q22 g22 => []) h () (za (j := 11) rfl hI zd) .nil (fun L23 q22 g22 Q356 h hL23 eL23 rL23 => zj (wsr ?_))))))))
     refine oM rfl (oM rfl (oV (zaR (l := y12) rfl hI sl22) (oV (zai rfl rfl) (rnf (zg h rfl (fun _ h => ?_) (fun _ h => ?_))))))
     ·refine wkf (zj (zt (zj (zj (zS (.v 0 (.v 1 (.v 2 (.v 3 (.v 4 (.v 5 (.v 6 (.v 7 (.v 8 (.v 9 (.v 10 (.v 11 (.v 12 (.v 13 (.v 14 (.v 15 (.v 16 (.v 17 (.v 18 (.v 19 (.v 20 (.v 21 (.t 22 (.v 23 (.v 24 (.v 25 (.v 26 (.v 27 (.v 28 (.v 29 (.v 30 (.v 31 (.v 32 (.v 33 (.v 34 (.v 35 (.v 36 (.v 37 .nil)))))))))))))))))))))))))))))))))))))) moOrd (by kernel_rfl) ?_)))))
      refine rvm rfl rfl (rvm rfl rfl (zb h fun y190 hy190 h => zp rfl (zaB (l := y12) rfl hI rfl sl22 hy190) (zp rfl (zf ty3 rfl) (zp rfl (zai rfl rfl) (rvm rfl rfl (zcV (jb 86) je .nil h 8 rfl (fun q191 g191 h => ?_) (fun J192 h hJ192 => ?_)))))))
      ·refine rvm rfl rfl (zcV (jb 96) je .nil h 9 rfl (fun q195 g195 h => ?_) (fun J196 h hJ196 => ?_))
       ·refine rvm rfl rfl (zcV (jb 110) je .nil h 13 rfl (fun q201 g201 h => ?_) (fun J202 h hJ202 => ?_))
        ·refine zac (zy (zg h rfl (fun _ h => ?_) (fun _ h => ?_)))
         ·refine wsr (oA rfl (rnf (zK (zB (zG (zB (rL23 _ (zG ?_))))))))
          refine zB ?_
          cases h
          exact zo (.tmp rfl .nil) .nil ⟨rfl, rfl⟩
         refine wkf (zj (zS (.v 0 (.v 1 (.v 2 (.v 3 (.v 4 (.v 5 (.v 6 (.v 7 (.v 8 (.v 9 (.v 10 (.v 11 (.v 12 (.v 13 (.v 14 (.v 15 (.v 16 (.v 17 (.v 18 (.v 19 (.v 20 (.v 21 (.v 22 (.v 23 (.v 24 (.v 26 (.v 27 (.v 28 (.v 29 (.v 30 (.v 31 (.v 32 (.v 33 (.v 34 (.v 35 (.t 25 (.t 36 (.t 37 (.v 38 (.v 39 .nil)))))))))))))))))))))))))))))))))))))))) moOrd (by kernel_rfl) ?_))
         refine zp rfl (zZ rfl GTyp.f0 zet rfl (z := y10.kind)) (zp rfl (zf ty3 rfl) (zp rfl (zbP rfl rfl) (rvm rfl rfl (zcV (jb 117) je .nil h 3 rfl (fun q205 g205 h => ?_) (fun J206 h hJ206 => ?_)))))
         ·refine rvm rfl rfl (zcV (jb 123) je .nil h 5 rfl (fun q208 g208 h => ?_) (fun J209 h hJ209 => ?_))
          ·refine rvm rfl rfl (zcV (jb 150) je .nil h 26 rfl (fun q211 g211 h => ?_) (fun J212 h hJ212 => ?_))
           ·refine zac (zy (zg h rfl (fun _ h => ?_) (fun _ h => ?_)))
            ·refine wsr (oA rfl (rnf (zK (zG (zB (rL23 _ (zG (zB ?_))))))))
             cases h
             exact zo (.tmp rfl .nil) .nil ⟨rfl, rfl⟩
            refine zab (zi (zy (zh (oM rfl (zz h fun q222 h => oV (zaa rfl rfl q222) (oA rfl (zx ?_)))))))
            exact hL23 _ () h _ (ji 28 11 rfl rfl rfl)
           refine zav (j := 124) h rfl (fun g213 h => ?_) (fun g213 h => ?_)
           ·refine rvt 124 rfl rfl rfl g213 (zf ty40 rfl) (rvt 124 rfl rfl rfl g213 (zZ rfl GTyp.f4 zbE rfl (z := y10.fields)) (rvt 124 rfl rfl rfl g213 (zf ty52 rfl) (rvt 124 rfl rfl rfl g213 (zq rfl) (rvt 124 rfl rfl rfl g213 (zq rfl) (zz h fun q214 h => rvt 124 rfl rfl rfl g213 (zaL rfl rfl q214) (zb h fun y215 hy215 h => rvt 124 rfl rfl rfl g213 (zaB (l := y12) rfl hI rfl sl22 hy215) ?_))))))
            refine rvt 124 rfl rfl rfl g213 (zf ty3 rfl) (zb h fun y216 hy216 h => rvt 124 rfl rfl rfl g213 (zaB (l := y10.fields) rfl hI rfl sl52 hy216) (rvt 124 rfl rfl rfl g213 (zZ rfl GFld.f1 zc6 rfl (z := y216.ty)) (rvt 124 rfl rfl rfl g213 (zf ty3 rfl) (rvt 124 rfl rfl rfl g213 (zf ty40 rfl) (rvt 124 rfl rfl rfl g213 (zZ rfl GTyp.f4 zbE rfl (z := y10.fields)) (rvt 124 rfl rfl rfl g213 (zf ty52 rfl) (rvt 124 rfl rfl rfl g213 (zq rfl) ?_)))))))
            refine rvt 124 rfl rfl rfl g213 (zq rfl) (zb h fun y217 hy217 h => rvt 124 rfl rfl rfl g213 (zaB (l := y12) rfl hI rfl sl22 hy217) (rvt 124 rfl rfl rfl g213 (zf ty3 rfl) (zb h fun y218 hy218 h => rvt 124 rfl rfl rfl g213 (zaB (l := y10.fields) rfl hI rfl sl52 hy218) (rvt 124 rfl rfl rfl g213 (zZ rfl GFld.f1 zc6 rfl (z := y218.ty)) (rvt 124 rfl rfl rfl g213 (zf ty3 rfl) (zb h fun y219 hy219 h => ?_))))))
            exact zeP rfl rfl rfl (dj := 124) rfl g213 (zA (zif hy219) hT (s2 rfl rfl) .nil (zb h fun y220 hy220 h => zeP rfl rfl rfl (dj := 124) rfl g213 (zA (zif hy220) hT (s2 rfl rfl) .nil (zb h fun y221 hy221 h => zeP rfl rfl rfl (dj := 124) rfl g213 (zA (zix hy221) hT (s2 rfl rfl) .nil (rvt 124 rfl rfl rfl g213 (zbt rfl) (zp rfl (zs rfl g213 rfl) (hJ212 _ () h _ (ji 26 150 rfl rfl rfl)))))))))
           refine rpv 124 rfl rfl rfl g213 (rpv 124 rfl rfl rfl g213 (rpv 124 rfl rfl rfl g213 (rpv 124 rfl rfl rfl g213 (rpv 124 rfl rfl rfl g213 (rpv 124 rfl rfl rfl g213 (rpv 124 rfl rfl rfl g213 (rpv 124 rfl rfl rfl g213 (rpv 124 rfl rfl rfl g213 ?_))))))))
           refine rpv 124 rfl rfl rfl g213 (rpv 124 rfl rfl rfl g213 (rpv 124 rfl rfl rfl g213 (rpv 124 rfl rfl rfl g213 (rpv 124 rfl rfl rfl g213 (rpv 124 rfl rfl rfl g213 (rpv 124 rfl rfl rfl g213 (rpv 124 rfl rfl rfl g213 (rpv 124 rfl rfl rfl g213 ?_))))))))
           exact rpv 124 rfl rfl rfl g213 (rpv 124 rfl rfl rfl g213 (rpv 124 rfl rfl rfl g213 (zb6 rfl rfl (dj := 124) rfl g213 (zb6 rfl rfl (dj := 124) rfl g213 (zb6 rfl rfl (dj := 124) rfl g213 (rpv 124 rfl rfl rfl g213 (zp rfl (zr rfl g213 rfl) (hJ212 _ () h _ (ji 26 150 rfl rfl rfl)))))))))
          refine zav (j := 118) h rfl (fun g210 h => ?_) (fun g210 h => ?_)
          ·exact rvt 118 rfl rfl rfl g210 (zq rfl) (rvt 118 rfl rfl rfl g210 (zZ rfl GTyp.f5 zeK rfl (z := y10.root)) (rvt 118 rfl rfl rfl g210 (zf ty3 rfl) (rvt 118 rfl rfl rfl g210 (zai rfl rfl) (zp rfl (zs rfl g210 rfl) (hJ209 _ () h _ (ji 5 123 rfl rfl rfl))))))
          exact rpv 118 rfl rfl rfl g210 (rpv 118 rfl rfl rfl g210 (rpv 118 rfl rfl rfl g210 (rpv 118 rfl rfl rfl g210 (zp rfl (zr rfl g210 rfl) (hJ209 _ () h _ (ji 5 123 rfl rfl rfl))))))
         refine zav (j := 114) h rfl (fun g207 h => ?_) (fun g207 h => ?_)
         ·exact rvt 114 rfl rfl rfl g207 (zq rfl) (rvt 114 rfl rfl rfl g207 (zbu rfl rfl) (zp rfl (zs rfl g207 rfl) (hJ206 _ () h _ (ji 3 117 rfl rfl rfl))))
         exact rpv 114 rfl rfl rfl g207 (rpv 114 rfl rfl rfl g207 (zp rfl (zr rfl g207 rfl) (hJ206 _ () h _ (ji 3 117 rfl rfl rfl))))
        refine zav (j := 97) h rfl (fun g203 h => ?_) (fun g203 h => ?_)
        ·refine rpv 97 rfl rfl rfl g203 (rpv 97 rfl rfl rfl g203 (rpv 97 rfl rfl rfl g203 (rpv 97 rfl rfl rfl g203 (rpv 97 rfl rfl rfl g203 (rpv 97 rfl rfl rfl g203 (rpv 97 rfl rfl rfl g203 (rpv 97 rfl rfl rfl g203 (rpv 97 rfl rfl rfl g203 ?_))))))))
         exact rpv 97 rfl rfl rfl g203 (rpv 97 rfl rfl rfl g203 (rpv 97 rfl rfl rfl g203 (zp rfl (zs rfl g203 rfl) (hJ202 _ () h _ (ji 13 110 rfl rfl rfl)))))
        refine rvt 97 rfl rfl rfl g203 (zq rfl) (rvt 97 rfl rfl rfl g203 (zq rfl) (zb h fun y204 hy204 h => rvt 97 rfl rfl rfl g203 (zaB (l := y12) rfl hI rfl sl22 hy204) (rvt 97 rfl rfl rfl g203 (zf ty3 rfl) (rvt 97 rfl rfl rfl g203 (zZ rfl GTyp.f5 zeK rfl (z := y10.root)) (rvt 97 rfl rfl rfl g203 (zf ty3 rfl) (rvt 97 rfl rfl rfl g203 (zai rfl rfl) (rvt 97 rfl rfl rfl g203 (zq rfl) ?_)))))))
        exact rvt 97 rfl rfl rfl g203 (zZ rfl GTyp.f5 zeK rfl (z := y10.root)) (rvt 97 rfl rfl rfl g203 (zf ty3 rfl) (rvt 97 rfl rfl rfl g203 (zai rfl rfl) (rvt 97 rfl rfl rfl g203 (ziK eq4 rfl rfl) (zp rfl (zr rfl g203 rfl) (hJ202 _ () h _ (ji 13 110 rfl rfl rfl))))))
       refine zav (j := 87) h rfl (fun g197 h => ?_) (fun g197 h => ?_)
       ·refine rpv 87 rfl rfl rfl g197 (rpv 87 rfl rfl rfl g197 (rpv 87 rfl rfl rfl g197 (rpv 87 rfl rfl rfl g197 (rpv 87 rfl rfl rfl g197 (rpv 87 rfl rfl rfl g197 (rpv 87 rfl rfl rfl g197 (zb6 rfl rfl (dj := 87) rfl g197 (zp rfl (zs rfl g197 rfl) ?_))))))))
        exact hJ196 _ () h _ (ji 9 96 rfl rfl rfl)
       refine rvt 87 rfl rfl rfl g197 (zq rfl) (rvt 87 rfl rfl rfl g197 (zq rfl) (zI h fun q198 h => rvt 87 rfl rfl rfl g197 (zfz (l := y12) rfl hI sl22 (.inl ⟨rfl, rfl⟩) (.inr ⟨_, rfl, rfl⟩) q198.1 q198.2.1 q198.2.2) (rvt 87 rfl rfl rfl g197 (zq rfl) (rvt 87 rfl rfl rfl g197 (zq rfl) (zb h fun y199 hy199 h => rvt 87 rfl rfl rfl g197 (zaB (l := y12) rfl hI rfl sl22 hy199) (rvt 87 rfl rfl rfl g197 (zf ty3 rfl) ?_))))))
       exact zb h fun y200 hy200 h => zeP rfl rfl rfl (dj := 87) rfl g197 (zA (zep hy200) hT (s2 rfl rfl) .nil (zp rfl (zr rfl g197 rfl) (hJ196 _ () h _ (ji 9 96 rfl rfl rfl))))
      refine zav (j := 78) h rfl (fun g193 h => ?_) (fun g193 h => ?_)
      ·exact rpv 78 rfl rfl rfl g193 (rpv 78 rfl rfl rfl g193 (rpv 78 rfl rfl rfl g193 (rpv 78 rfl rfl rfl g193 (rpv 78 rfl rfl rfl g193 (rpv 78 rfl rfl rfl g193 (rpv 78 rfl rfl rfl g193 (zp rfl (zs rfl g193 rfl) (hJ192 _ () h _ (ji 8 86 rfl rfl rfl)))))))))
      refine rvt 78 rfl rfl rfl g193 (zq rfl) (rvt 78 rfl rfl rfl g193 (zq rfl) (zb h fun y194 hy194 h => rvt 78 rfl rfl rfl g193 (zaB (l := y12) rfl hI rfl sl22 hy194) (rvt 78 rfl rfl rfl g193 (zf ty3 rfl) (rvt 78 rfl rfl rfl g193 (zq rfl) (rvt 78 rfl rfl rfl g193 (zaR (l := y12) rfl hI sl22) (rvt 78 rfl rfl rfl g193 (zed rfl rfl) (zp rfl (zr rfl g193 rfl) ?_)))))))
      exact hJ192 _ () h _ (ji 8 86 rfl rfl rfl)
     refine zae (zU (eL23 _ _ (zF (zy (zj (wsr (oA rfl (rnf ?_))))))))
     refine zt (zaQ (ι := Int) (γ := Unit) (fun q223 g223 => [(12, isv (q223))]) (fun q223 g223 => []) h () (za (j := 12) rfl hI zd) .nil (fun L224 q223 g223 Q355 h hL224 eL224 rL224 => zj (wsr (oM rfl (oM rfl (oV (zaR (l := y13) rfl hI sl22) (oV (zai rfl rfl) (rnf ?_))))))))
     refine zg h rfl (fun _ h => ?_) (fun _ h => ?_)
     ·refine wkf (zj (zt (zj (zS (.v 0 (.v 1 (.v 2 (.v 3 (.v 4 (.v 5 (.v 6 (.v 7 (.v 8 (.v 9 (.v 10 (.v 11 (.v 12 (.v 13 (.v 14 (.v 15 (.v 16 (.v 17 (.v 18 (.v 19 (.v 20 (.v 21 (.t 22 (.v 23 (.v 24 (.v 25 (.v 26 (.v 27 (.v 28 (.v 29 (.v 30 (.v 31 (.v 32 (.v 33 (.v 34 (.v 35 (.v 36 (.v 37 (.v 38 (.v 39 (.v 40 (.v 41 (.v 42 (.v 43 (.v 44 (.v 45 (.v 46 (.v 47 (.v 48 (.v 49 (.v 50 (.v 51 (.v 52 (.v 53 (.v 54 (.v 55 .nil)))))))))))))))))))))))))))))))))))))))))))))))))))))))) moOrd (by kernel_rfl) ?_))))
      refine rvm rfl rfl (rvm rfl rfl (zb h fun y290 hy290 h => zp rfl (zaB (l := y13) rfl hI rfl sl22 hy290) (zp rfl (zf ty3 rfl) (zp rfl (zai rfl rfl) (rvm rfl rfl (zcV (jb 170) je .nil h 8 rfl (fun q291 g291 h => ?_) (fun J292 h hJ292 => ?_)))))))
      ·refine rvm rfl rfl (zcV (jb 180) je .nil h 9 rfl (fun q295 g295 h => ?_) (fun J296 h hJ296 => ?_))
       ·refine rvm rfl rfl (zcV (jb 212) je .nil h 31 rfl (fun q301 g301 h => ?_) (fun J302 h hJ302 => ?_))
        ·refine zac (zy (zg h rfl (fun _ h => ?_) (fun _ h => ?_)))
         ·refine wsr (oA rfl (rnf (zK (zG (zB (rL224 _ (zG (zB ?_))))))))
          cases h
          exact zo (.tmp rfl .nil) .nil ⟨rfl, rfl⟩
         refine zab (zi (zy (zh (oM rfl (zz h fun q315 h => oV (zaa rfl rfl q315) (oA rfl (zx ?_)))))))
         exact hL224 _ () h _ (ji 19 12 rfl rfl rfl)
        refine zav (j := 181) h rfl (fun g303 h => ?_) (fun g303 h => ?_)
        ·refine rpv 181 rfl rfl rfl g303 (rpv 181 rfl rfl rfl g303 (rpv 181 rfl rfl rfl g303 (zaC rfl rfl (dj := 184) rfl (zaC rfl rfl (dj := 184) rfl (zaC rfl rfl (dj := 184) rfl (zaC rfl rfl (dj := 184) rfl (rpv 181 rfl rfl rfl g303 (rpv 181 rfl rfl rfl g303 ?_))))))))
         refine zaC rfl rfl (dj := 190) rfl (zaC rfl rfl (dj := 190) rfl (zaC rfl rfl (dj := 190) rfl (zaC rfl rfl (dj := 190) rfl (zaC rfl rfl (dj := 190) rfl (zaC rfl rfl (dj := 190) rfl (zaC rfl rfl (dj := 190) rfl (zaC rfl rfl (dj := 190) rfl (zaC rfl rfl (dj := 190) rfl ?_))))))))
         refine zaC rfl rfl (dj := 190) rfl (zaC rfl rfl (dj := 190) rfl (zaC rfl rfl (dj := 190) rfl (zaC rfl rfl (dj := 190) rfl (zaC rfl rfl (dj := 190) rfl (zaC rfl rfl (dj := 190) rfl (zaC rfl rfl (dj := 190) rfl (zaC rfl rfl (dj := 190) rfl (zaC rfl rfl (dj := 190) rfl ?_))))))))
         exact zaC rfl rfl (dj := 190) rfl (zaC rfl rfl (dj := 190) rfl (rpv 181 rfl rfl rfl g303 (zp rfl (zs rfl g303 rfl) (hJ302 _ () h _ (ji 31 212 rfl rfl rfl)))))
        refine rvt 181 rfl rfl rfl g303 (zq rfl) (rvt 181 rfl rfl rfl g303 (zbu rfl rfl) (rvt 181 rfl rfl rfl g303 (zq rfl) (zcV (jb 189) je .nil h 5 rfl (fun q304 g304 h => ?_) (fun J305 h hJ305 => ?_))))
        ·refine rvt 181 rfl rfl rfl g303 (zq rfl) (zcV (jb 211) je .nil h 21 rfl (fun q307 g307 h => ?_) (fun J308 h hJ308 => ?_))
         ·exact zp rfl (zr rfl g303 rfl) (hJ302 _ () h _ (ji 7 212 rfl rfl rfl))
         refine zav (j := 190) h rfl (fun g309 h => ?_) (fun g309 h => ?_)
         ·refine rvt 190 rfl rfl rfl g309 (zZ rfl GTyp.f3 zfc rfl (z := y10.items)) (rvt 190 rfl rfl rfl g309 (zf ty51 rfl) (rvt 190 rfl rfl rfl g309 (zq rfl) (rvt 190 rfl rfl rfl g309 (zq rfl) (zb h fun y310 hy310 h => rvt 190 rfl rfl rfl g309 (zaB (l := y13) rfl hI rfl sl22 hy310) (rvt 190 rfl rfl rfl g309 (zf ty3 rfl) (zb h fun y311 hy311 h => rvt 190 rfl rfl rfl g309 (zaB (l := y10.items) rfl hI rfl sl51 hy311) ?_))))))
          refine rvt 190 rfl rfl rfl g309 (zZ rfl GItem.f1 zc5 rfl (z := y311.number)) (rvt 190 rfl rfl rfl g309 (zf ty2 rfl) (rvt 190 rfl rfl rfl g309 (zZ rfl GTyp.f3 zfc rfl (z := y10.items)) (rvt 190 rfl rfl rfl g309 (zf ty51 rfl) (rvt 190 rfl rfl rfl g309 (zq rfl) (rvt 190 rfl rfl rfl g309 (zq rfl) (zz h fun q312 h => rvt 190 rfl rfl rfl g309 (zaL rfl rfl q312) (zb h fun y313 hy313 h => ?_)))))))
          exact rvt 190 rfl rfl rfl g309 (zaB (l := y13) rfl hI rfl sl22 hy313) (rvt 190 rfl rfl rfl g309 (zf ty3 rfl) (zb h fun y314 hy314 h => rvt 190 rfl rfl rfl g309 (zaB (l := y10.items) rfl hI rfl sl51 hy314) (rvt 190 rfl rfl rfl g309 (zZ rfl GItem.f1 zc5 rfl (z := y314.number)) (rvt 190 rfl rfl rfl g309 (zf ty2 rfl) (rvt 190 rfl rfl rfl g309 (zii rfl rfl) (rvt 181 rfl rfl rfl g303 (zs rfl g309 rfl) (hJ308 _ () h _ (ji 21 211 rfl rfl rfl))))))))
         refine rpv 190 rfl rfl rfl g309 (rpv 190 rfl rfl rfl g309 (rpv 190 rfl rfl rfl g309 (rpv 190 rfl rfl rfl g309 (rpv 190 rfl rfl rfl g309 (rpv 190 rfl rfl rfl g309 (rpv 190 rfl rfl rfl g309 (rpv 190 rfl rfl rfl g309 (rpv 190 rfl rfl rfl g309 ?_))))))))
         refine rpv 190 rfl rfl rfl g309 (rpv 190 rfl rfl rfl g309 (rpv 190 rfl rfl rfl g309 (rpv 190 rfl rfl rfl g309 (rpv 190 rfl rfl rfl g309 (rpv 190 rfl rfl rfl g309 (rpv 190 rfl rfl rfl g309 (rpv 190 rfl rfl rfl g309 (rpv 190 rfl rfl rfl g309 ?_))))))))
         exact rpv 190 rfl rfl rfl g309 (rpv 190 rfl rfl rfl g309 (rvt 181 rfl rfl rfl g303 (zr rfl g309 rfl) (hJ308 _ () h _ (ji 21 211 rfl rfl rfl))))
        refine zav (j := 184) h rfl (fun g306 h => ?_) (fun g306 h => ?_)
        ·exact rvt 184 rfl rfl rfl g306 (zq rfl) (rvt 184 rfl rfl rfl g306 (zZ rfl GTyp.f5 zeK rfl (z := y10.root)) (rvt 184 rfl rfl rfl g306 (zf ty3 rfl) (rvt 184 rfl rfl rfl g306 (zai rfl rfl) (rvt 181 rfl rfl rfl g303 (zs rfl g306 rfl) (hJ305 _ () h _ (ji 5 189 rfl rfl rfl))))))
        exact rpv 184 rfl rfl rfl g306 (rpv 184 rfl rfl rfl g306 (rpv 184 rfl rfl rfl g306 (rpv 184 rfl rfl rfl g306 (rvt 181 rfl rfl rfl g303 (zr rfl g306 rfl) (hJ305 _ () h _ (ji 5 189 rfl rfl rfl))))))
       refine zav (j := 171) h rfl (fun g297 h => ?_) (fun g297 h => ?_)
       ·refine rpv 171 rfl rfl rfl g297 (rpv 171 rfl rfl rfl g297 (rpv 171 rfl rfl rfl g297 (rpv 171 rfl rfl rfl g297 (rpv 171 rfl rfl rfl g297 (rpv 171 rfl rfl rfl g297 (rpv 171 rfl rfl rfl g297 (zb6 rfl rfl (dj := 171) rfl g297 (zp rfl (zs rfl g297 rfl) ?_))))))))
        exact hJ296 _ () h _ (ji 9 180 rfl rfl rfl)
       refine rvt 171 rfl rfl rfl g297 (zq rfl) (rvt 171 rfl rfl rfl g297 (zq rfl) (zI h fun q298 h => rvt 171 rfl rfl rfl g297 (zfz (l := y13) rfl hI sl22 (.inl ⟨rfl, rfl⟩) (.inr ⟨_, rfl, rfl⟩) q298.1 q298.2.1 q298.2.2) (rvt 171 rfl rfl rfl g297 (zq rfl) (rvt 171 rfl rfl rfl g297 (zq rfl) (zb h fun y299 hy299 h => rvt 171 rfl rfl rfl g297 (zaB (l := y13) rfl hI rfl sl22 hy299) (rvt 171 rfl rfl rfl g297 (zf ty3 rfl) ?_))))))
       exact zb h fun y300 hy300 h => zeP rfl rfl rfl (dj := 171) rfl g297 (zA (zep hy300) hT (s2 rfl rfl) .nil (zp rfl (zr rfl g297 rfl) (hJ296 _ () h _ (ji 9 180 rfl rfl rfl))))
      refine zav (j := 162) h rfl (fun g293 h => ?_) (fun g293 h => ?_)
      ·exact rpv 162 rfl rfl rfl g293 (rpv 162 rfl rfl rfl g293 (rpv 162 rfl rfl rfl g293 (rpv 162 rfl rfl rfl g293 (rpv 162 rfl rfl rfl g293 (rpv 162 rfl rfl rfl g293 (rpv 162 rfl rfl rfl g293 (zp rfl (zs rfl g293 rfl) (hJ292 _ () h _ (ji 8 170 rfl rfl rfl)))))))))
      refine rvt 162 rfl rfl rfl g293 (zq rfl) (rvt 162 rfl rfl rfl g293 (zq rfl) (zb h fun y294 hy294 h => rvt 162 rfl rfl rfl g293 (zaB (l := y13) rfl hI rfl sl22 hy294) (rvt 162 rfl rfl rfl g293 (zf ty3 rfl) (rvt 162 rfl rfl rfl g293 (zq rfl) (rvt 162 rfl rfl rfl g293 (zaR (l := y13) rfl hI sl22) (rvt 162 rfl rfl rfl g293 (zed rfl rfl) (zp rfl (zr rfl g293 rfl) ?_)))))))
      exact hJ292 _ () h _ (ji 8 170 rfl rfl rfl)
     refine zae (zU (eL224 _ _ (zF (zy (wsr (oV (zZ rfl GTyp.f5 zeK rfl (z := y10.root)) (oV (zf ty3 rfl) (oA rfl ?_))))))))
     refine rnf (zj (wsr (oA rfl (rnf (zt (zaQ (ι := Int × Int) (γ := Unit) (fun q316 g316 => [(13, isv (q316.1)), (14, isv (q316.2))]) (fun q316 g316 => []) h () (za (j := 13) rfl hI (za (j := 14) rfl hI zd)) .nil (fun L317 q316 g316 Q354 h hL317 eL317 rL317 => zj (wsr ?_))))))))
     refine oM rfl (oM rfl (oV (zaR (l := y14) rfl hI sl45) (oV (zai rfl rfl) (rnf (zg h rfl (fun _ h => ?_) (fun _ h => ?_))))))
     ·refine wkf (zj (zt (wsr (oA rfl (rnf (zt (zaQ (ι := Int × Int) (γ := Unit) (fun q336 g336 => [(13, isv (q336.1)), (15, isv (q336.2))]) (fun q336 g336 => []) h () (za (j := 13) rfl hI (za (j := 15) rfl hI zd)) .nil (fun L337 q336 g336 Q350 h hL337 eL337 rL337 => zj ?_))))))))
      refine wsr (oM rfl (oM rfl (oM rfl (zb h fun y344 hy344 h => oV (zaB (l := y14) rfl hI rfl sl45 hy344) (oV (zf ty22 rfl) (oV (zaR (l := y344) rfl hI sl22) (oV (zai rfl rfl) ?_)))))))
      refine rnf (zg h rfl (fun _ h => ?_) (fun _ h => ?_))
      ·refine wkf (zj (zt (zj (wsr (oM rfl (oM rfl (zb h fun y345 hy345 h => oV (zaB (l := y14) rfl hI rfl sl45 hy345) ?_)))))))
       refine oV (zf ty22 rfl) (oM rfl (zb h fun y346 hy346 h => oV (zaB (l := y345) rfl hI rfl sl22 hy346) (oV (zf ty3 rfl) (oM rfl (oV (zbP rfl rfl) (rnf (zg h rfl (fun _ h => ?_) (fun _ h => ?_))))))))
       ·refine wsr (oA rfl (rnf (zK (zB (zG (zB (rL337 _ (zG ?_))))))))
        refine zG (zB (rL317 _ (zG (zB ?_))))
        cases h
        exact zo (.tmp rfl .nil) .nil ⟨rfl, rfl⟩
       refine wkf (zh (oM rfl (zz h fun q347 h => oV (zaa rfl rfl q347) (oA rfl (zx (zi (zy ?_)))))))
       exact zh (oM rfl (zz h fun q348 h => oV (zaa rfl rfl q348) (oA rfl (zx (hL337 _ () h _ (ze 24 rfl rfl (za (j := 13) rfl hI (za (j := 15) rfl hI zd)) .nil))))))
      refine zae (zU (eL337 _ _ (zF (zi (zy (zh (oM rfl (zz h fun q349 h => ?_))))))))
      exact oV (zaa rfl rfl q349) (oA rfl (zx (hL317 _ () h _ (ze 19 rfl rfl (za (j := 13) rfl hI (za (j := 14) rfl hI zd)) .nil))))
     refine zae (zU (eL317 _ _ (zF (zy (wsr (oV (zZ rfl GTyp.f4 zbE rfl (z := y10.fields)) (oV (zf ty52 rfl) (oV (zaR (l := y10.fields) rfl hI sl52) ?_))))))))
     refine oV (zao rfl rfl) (oM rfl (zaz (jb 251) je .nil h 6 rfl (fun q351 g351 h => ?_) (fun J352 h hJ352 => ?_)))
     ·refine oA rfl (rnf (zK ?_))
      cases h
      exact zo (.tmp rfl .nil) .nil ⟨rfl, rfl⟩
     refine zC (j := 245) h rfl (fun g353 h => ?_) (fun g353 h => ?_)
     ·exact oP 245 rfl rfl g353 (oP 245 rfl rfl g353 (oP 245 rfl rfl g353 (oP 245 rfl rfl g353 (oP 245 rfl rfl g353 (oV (zs rfl g353 rfl) (hJ352 _ () h _ (ji 6 251 rfl rfl rfl)))))))
     exact oK 245 rfl rfl rfl g353 (zq rfl) (oK 245 rfl rfl rfl g353 (zZ rfl GTyp.f4 zbE rfl (z := y10.fields)) (oK 245 rfl rfl rfl g353 (zf ty52 rfl) (oK 245 rfl rfl rfl g353 (zaR (l := y10.fields) rfl hI sl52) (oK 245 rfl rfl rfl g353 (zao rfl rfl) (oV (zr rfl g353 rfl) (hJ352 _ () h _ (ji 6 251 rfl rfl rfl)))))))
    refine zC (j := 59) h rfl (fun g21 h => ?_) (fun g21 h => ?_)
    ·exact oP 59 rfl rfl g21 (oP 59 rfl rfl g21 (oP 59 rfl rfl g21 (oP 59 rfl rfl g21 (oP 59 rfl rfl g21 (oP 59 rfl rfl g21 (oV (zs rfl g21 rfl) (hJ20 _ () h _ (ji 7 66 rfl rfl rfl))))))))
    exact oK 59 rfl rfl rfl g21 (zq rfl) (oK 59 rfl rfl rfl g21 (zaR (l := y13) rfl hI sl22) (oK 59 rfl rfl rfl g21 (zZ rfl GTyp.f3 zfc rfl (z := y10.items)) (oK 59 rfl rfl rfl g21 (zf ty51 rfl) (oK 59 rfl rfl rfl g21 (zaR (l := y10.items) rfl hI sl51) (oK 59 rfl rfl rfl g21 (zbP rfl rfl) (oV (zr rfl g21 rfl) (hJ20 _ () h _ (ji 7 66 rfl rfl rfl))))))))
   refine zC (j := 51) h rfl (fun g18 h => ?_) (fun g18 h => ?_)
   ·exact oP 51 rfl rfl g18 (oP 51 rfl rfl g18 (oP 51 rfl rfl g18 (oP 51 rfl rfl g18 (oP 51 rfl rfl g18 (oP 51 rfl rfl g18 (oV (zs rfl g18 rfl) (hJ17 _ () h _ (ji 7 58 rfl rfl rfl))))))))
   exact oK 51 rfl rfl rfl g18 (zq rfl) (oK 51 rfl rfl rfl g18 (zaR (l := y12) rfl hI sl22) (oK 51 rfl rfl rfl g18 (zZ rfl GTyp.f4 zbE rfl (z := y10.fields)) (oK 51 rfl rfl rfl g18 (zf ty52 rfl) (oK 51 rfl rfl rfl g18 (zaR (l := y10.fields) rfl hI sl52) (oK 51 rfl rfl rfl g18 (zbP rfl rfl) (oV (zr rfl g18 rfl) (hJ17 _ () h _ (ji 7 58 rfl rfl rfl))))))))
  refine zC (j := 27) h rfl (fun g8 h => ?_) (fun g8 h => ?_)
  ·exact oP 27 rfl rfl g8 (oP 27 rfl rfl g8 (oP 27 rfl rfl g8 (oP 27 rfl rfl g8 (oP 27 rfl rfl g8 (oV (zs rfl g8 rfl) (hJ7 _ () h _ (ji 6 33 rfl rfl rfl)))))))
  exact oK 27 rfl rfl rfl g8 (zq rfl) (oK 27 rfl rfl rfl g8 (zZ rfl GTab.f3 zf5 rfl (z := y1.1.types)) (oK 27 rfl rfl rfl g8 (zf ty38 rfl) (oK 27 rfl rfl rfl g8 (zaR (l := y1.1.types) rfl hI sl38) (oK 27 rfl rfl rfl g8 (zed rfl rfl) (oV (zr rfl g8 rfl) (hJ7 _ () h _ (ji 6 33 rfl rfl rfl)))))))
 refine zC (j := 23) h rfl (fun g5 h => ?_) (fun g5 h => ?_)
 ·exact oP 23 rfl rfl g5 (oP 23 rfl rfl g5 (oV (zs rfl g5 rfl) (hJ4 _ () h _ (ji 3 26 rfl rfl rfl))))
 exact oK 23 rfl rfl rfl g5 (zq rfl) (oK 23 rfl rfl rfl g5 (zai rfl rfl) (oV (zr rfl g5 rfl) (hJ4 _ () h _ (ji 3 26 rfl rfl rfl))))

end Go.Proofs.Q

