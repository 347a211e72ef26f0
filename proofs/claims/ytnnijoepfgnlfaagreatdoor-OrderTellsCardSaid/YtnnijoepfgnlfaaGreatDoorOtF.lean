/- Walks, printed by mill.py. -/
import Derived.Test.YtnnijoepfgnlfaaGreatDoorOtA
import Derived.Test.YtnnijoepfgnlfaaGreatDoorOtB
import Derived.Test.YtnnijoepfgnlfaaGreatDoorOtC
import Derived.Test.YtnnijoepfgnlfaaGreatDoorOtD
import Derived.Test.YtnnijoepfgnlfaaGreatDoorOtE
set_option linter.unusedVariables false
set_option linter.unusedSimpArgs false

namespace Go.Proofs.Q
open Go.Sy
set_option maxRecDepth 4000
theorem zbh : ∀ {a_x : GMk} {a_e : Int} {zK : Nat} {zah : Vt} {r : GMk}, zaM a_x a_e = some r → Ctr Tryz.prog 150 [ptrv zK (Fld.id (GMod × Vh × Int)), isv (a_e)] [boxE zK ((a_x.m, (Vh.mk zah a_x.l.length), a_x.e) : (GMod × Vh × Int)), vecE zah (a_x.l : List GTyp)] (fun R H => R = oneOf [] ∧ H = [boxE zK ((r.m, (Vh.mk zah r.l.length), r.e)), vecE zah (r.l)]) := by
 intro a_x a_e zK zah r h
 unfold zaM at h
 refine zp Tryz.func150 rfl fun w0 S0 hT => wsr (oM rfl (oV (zu rfl) (oV (zag rfl zcj zdI) (oT (zM (R := isv (a_x.e)) ty65 rfl .here hI (oV (zao rfl rfl) (rnf (zg h rfl (fun _ h => ?_) (fun _ h => ?_)))))))))
 ·refine zh (oM rfl (oM rfl (oV (zu rfl) (oV (zag rfl zcj zdI) (oT (zm (y' := ((a_x.m, (Vh.mk zah a_x.l.length), a_e) : (GMod × Vh × Int))) ty65 rfl rfl hI .here rfl (zw (zan .nil k2 ?_))))))))
  cases h
  exact ⟨rfl, rfl⟩
 refine zac (zan .nil k2 ?_)
 cases h
 exact ⟨rfl, rfl⟩


theorem ziD : ∀ {zd4 : Int} {r : Tag}, zdD zd4 = some r → Ctr Tryz.prog 151 [isv (zd4)] [] (fun R H => R = oneOf [isv (r)] ∧ H = []) := by
 intro zd4 r h
 unfold zdD at h
 refine zp Tryz.func151 rfl fun w0 S0 hT => wsr (oT (zaf _ ze31 fun b1 => rnf (zj (wsr (oM rfl (rnf (zq ?_)))))))
 refine wsr (oV (zao rfl rfl) (oA rfl (rnf (zg h rfl (fun _ h => ?_) (fun _ h => ?_)))))
 ·refine wsr (oV (zaC (z := (Tag.mk (0 : Int) (1 : Int))) rfl bu31 ze31 (.cons Tag.f1 zer rfl hI .nil)) (oT (zm (y' := ((Tag.mk (0 : Int) (1 : Int)) : Tag)) ty31 rfl rfl hI .here rfl (rnf (zJ (zH (zA ?_)))))))
  cases h
  exact zk (.cell rfl .here ty31 .nil) .nil ⟨rfl, rfl⟩
 refine wsr (oV (zao rfl rfl) (oA rfl (rnf (zg h rfl (fun _ h => ?_) (fun _ h => ?_)))))
 ·refine wsr (oV (zaC (z := (Tag.mk (0 : Int) (2 : Int))) rfl bu31 ze31 (.cons Tag.f1 zer rfl hI .nil)) (oT (zm (y' := ((Tag.mk (0 : Int) (2 : Int)) : Tag)) ty31 rfl rfl hI .here rfl (rnf (zJ (zH (zA ?_)))))))
  cases h
  exact zk (.cell rfl .here ty31 .nil) .nil ⟨rfl, rfl⟩
 refine wsr (oV (zao rfl rfl) (oA rfl (rnf (zg h rfl (fun _ h => ?_) (fun _ h => ?_)))))
 ·refine wsr (oV (zaC (z := (Tag.mk (0 : Int) (4 : Int))) rfl bu31 ze31 (.cons Tag.f1 zer rfl hI .nil)) (oT (zm (y' := ((Tag.mk (0 : Int) (4 : Int)) : Tag)) ty31 rfl rfl hI .here rfl (rnf (zJ (zH (zA ?_)))))))
  cases h
  exact zk (.cell rfl .here ty31 .nil) .nil ⟨rfl, rfl⟩
 refine wsr (oV (zao rfl rfl) (oA rfl (rnf (zg h rfl (fun _ h => ?_) (fun _ h => ?_)))))
 ·refine wsr (oV (zaC (z := (Tag.mk (0 : Int) (5 : Int))) rfl bu31 ze31 (.cons Tag.f1 zer rfl hI .nil)) (oT (zm (y' := ((Tag.mk (0 : Int) (5 : Int)) : Tag)) ty31 rfl rfl hI .here rfl (rnf (zJ (zH (zA ?_)))))))
  cases h
  exact zk (.cell rfl .here ty31 .nil) .nil ⟨rfl, rfl⟩
 refine wsr (oV (zao rfl rfl) (oA rfl (rnf (zg h rfl (fun _ h => ?_) (fun _ h => ?_)))))
 ·refine wsr (oV (zaC (z := (Tag.mk (0 : Int) (10 : Int))) rfl bu31 ze31 (.cons Tag.f1 zer rfl hI .nil)) (oT (zm (y' := ((Tag.mk (0 : Int) (10 : Int)) : Tag)) ty31 rfl rfl hI .here rfl (rnf (zJ (zH (zA ?_)))))))
  cases h
  exact zk (.cell rfl .here ty31 .nil) .nil ⟨rfl, rfl⟩
 refine wsr (oV (zao rfl rfl) (oA rfl (rnf (zg h rfl (fun _ h => ?_) (fun _ h => ?_)))))
 ·refine wsr (oV (zaC (z := (Tag.mk (0 : Int) (12 : Int))) rfl bu31 ze31 (.cons Tag.f1 zer rfl hI .nil)) (oT (zm (y' := ((Tag.mk (0 : Int) (12 : Int)) : Tag)) ty31 rfl rfl hI .here rfl (rnf (zJ (zH (zA ?_)))))))
  cases h
  exact zk (.cell rfl .here ty31 .nil) .nil ⟨rfl, rfl⟩
 refine zj (wsr (oV (zao rfl rfl) (oA rfl (rnf (zdB (jb 22) je .nil h (fun q2 g2 h => ?_) (fun J3 h hJ3 => ?_))))))
 ·refine zg h rfl (fun _ h => ?_) (fun _ h => ?_)
  ·refine wsr (oV (zaC (z := (Tag.mk (0 : Int) (16 : Int))) rfl bu31 ze31 (.cons Tag.f1 zer rfl hI .nil)) (oT (zm (y' := ((Tag.mk (0 : Int) (16 : Int)) : Tag)) ty31 rfl rfl hI .here rfl (rnf (zJ (zH (zA ?_)))))))
   cases h
   exact zk (.cell rfl .here ty31 .nil) .nil ⟨rfl, rfl⟩
  refine wsr (oV (zao rfl rfl) (oA rfl (rnf (zg h rfl (fun _ h => ?_) (fun _ h => ?_)))))
  ·refine wsr (oV (zaC (z := (Tag.mk (0 : Int) (17 : Int))) rfl bu31 ze31 (.cons Tag.f1 zer rfl hI .nil)) (oT (zm (y' := ((Tag.mk (0 : Int) (17 : Int)) : Tag)) ty31 rfl rfl hI .here rfl (rnf (zJ (zH (zA ?_)))))))
   cases h
   exact zk (.cell rfl .here ty31 .nil) .nil ⟨rfl, rfl⟩
  refine zac (zi (zx (wsr (oV (zaC (z := (Tag.mk (0 : Int) (0 : Int))) rfl bu31 ze31 .nil) (oT (zm (y' := ((Tag.mk (0 : Int) (0 : Int)) : Tag)) ty31 rfl rfl hI .here rfl (rnf (zJ ?_))))))))
  cases h
  exact zk (.cell rfl .here ty31 .nil) .nil ⟨rfl, rfl⟩
 refine zg h rfl (fun _ h => ?_) (fun _ h => ?_)
 ·exact zac (hJ3 _ () h _ (jk 0 22 rfl rfl rfl))
 exact zh (oV (zao rfl rfl) (oA rfl (zw (hJ3 _ () h _ (jk 2 22 rfl rfl rfl)))))


theorem zk7 : ∀ {a_c : GCon} {zjf : Bool} {r : Int}, zfR a_c zjf = some r → Ctr Tryz.prog 152 [isv (a_c), isv (zjf)] [] (fun R H => R = oneOf [isv (r)] ∧ H = []) := by
 intro a_c zjf r h
 unfold zfR at h
 refine zp Tryz.func152 rfl fun w0 S0 hT => wsr (oT (zaV (y := a_c) rfl hI (oA rfl (rnf (zj (wsr (oV (zW rfl GCon.f0 zlH rfl (z := a_c.has)) (oV (zf ty4 rfl) ?_))))))))
 refine oV (zbq rfl) (rnf (zg h rfl (fun _ h => ?_) (fun _ h => ?_)))
 ·refine wsr (oA rfl (rnf (zJ (zA ?_))))
  cases h
  exact zk (.tmp rfl .nil) .nil ⟨rfl, rfl⟩
 refine wkf (zj (wsr (oV (zW rfl GCon.f1 zi6 rfl (z := a_c.hasLow)) (oV (zf ty4 rfl) (oM rfl (zau (jb 13) je .nil h 3 rfl (fun q1 g1 h => ?_) (fun J2 h hJ2 => ?_)))))))
 ·refine oM rfl (zau (jb 20) je .nil h 6 rfl (fun q4 g4 h => ?_) (fun J5 h hJ5 => ?_))
  ·refine rnf (zg h rfl (fun _ h => ?_) (fun _ h => ?_))
   ·refine wsr (oA rfl (rnf (zJ (zA ?_))))
    cases h
    exact zk (.tmp rfl .nil) .nil ⟨rfl, rfl⟩
   refine wkf (zj (wsr (oM rfl (oM rfl (zau (jb 50) je .nil h 28 rfl (fun q7 g7 h => ?_) (fun J8 h hJ8 => ?_))))))
   ·refine rnf (zg h rfl (fun _ h => ?_) (fun _ h => ?_))
    ·refine wsr (oA rfl (rnf (zJ (zA ?_))))
     cases h
     exact zk (.tmp rfl .nil) .nil ⟨rfl, rfl⟩
    refine wkf (wsr (oA rfl (rnf (zJ ?_))))
    cases h
    exact zk (.tmp rfl .nil) .nil ⟨rfl, rfl⟩
   refine zB (j := 22) h rfl (fun g9 h => ?_) (fun g9 h => ?_)
   ·refine oK 22 rfl rfl rfl g9 (zW rfl GCon.f1 zi6 rfl (z := a_c.hasLow)) (oK 22 rfl rfl rfl g9 (zf ty4 rfl) (oK 22 rfl rfl rfl g9 (zbq rfl) (oK 22 rfl rfl rfl g9 (zt rfl) (zau (jb 30) je .nil h 4 rfl (fun q10 g10 h => ?_) (fun J11 h hJ11 => ?_)))))
    ·refine oK 22 rfl rfl rfl g9 (zt rfl) (zau (jb 35) je .nil h 4 rfl (fun q13 g13 h => ?_) (fun J14 h hJ14 => ?_))
     ·refine oK 22 rfl rfl rfl g9 (zt rfl) (zau (jb 49) je .nil h 13 rfl (fun q16 g16 h => ?_) (fun J17 h hJ17 => ?_))
      ·exact oV (zs rfl g9 rfl) (hJ8 _ () h _ (ji 10 50 rfl rfl rfl))
      refine zB (j := 36) h rfl (fun g18 h => ?_) (fun g18 h => ?_)
      ·refine oP 36 rfl rfl g18 (oP 36 rfl rfl g18 (oP 36 rfl rfl g18 (zC rfl (dj := 39) rfl (zC rfl (dj := 39) rfl (zC rfl (dj := 39) rfl (zC rfl (dj := 39) rfl (zC rfl (dj := 43) rfl (zC rfl (dj := 43) rfl ?_))))))))
       exact zC rfl (dj := 43) rfl (zC rfl (dj := 39) rfl (oP 36 rfl rfl g18 (oK 22 rfl rfl rfl g9 (zs rfl g18 rfl) (hJ17 _ () h _ (ji 13 49 rfl rfl rfl)))))
      refine oK 36 rfl rfl rfl g18 (zW rfl GCon.f2 zjk rfl (z := a_c.hasHigh)) (oK 36 rfl rfl rfl g18 (zf ty4 rfl) (oK 36 rfl rfl rfl g18 (zt rfl) (zau (jb 48) je .nil h 9 rfl (fun q19 g19 h => ?_) (fun J20 h hJ20 => ?_))))
      ·exact oK 22 rfl rfl rfl g9 (zr rfl g18 rfl) (hJ17 _ () h _ (ji 5 49 rfl rfl rfl))
      refine zB (j := 39) h rfl (fun g21 h => ?_) (fun g21 h => ?_)
      ·refine oK 39 rfl rfl rfl g21 (zW rfl GCon.f5 zij rfl (z := a_c.high)) (oK 39 rfl rfl rfl g21 (zf ty2 rfl) (oK 39 rfl rfl rfl g21 (zaj rfl rfl) (oK 39 rfl rfl rfl g21 (zt rfl) (zau (jb 47) je .nil h 4 rfl (fun q22 g22 h => ?_) (fun J23 h hJ23 => ?_)))))
       ·exact oK 36 rfl rfl rfl g18 (zs rfl g21 rfl) (hJ20 _ () h _ (ji 6 48 rfl rfl rfl))
       refine zB (j := 43) h rfl (fun g24 h => ?_) (fun g24 h => ?_)
       ·exact oP 43 rfl rfl g24 (oP 43 rfl rfl g24 (oP 43 rfl rfl g24 (oK 39 rfl rfl rfl g21 (zs rfl g24 rfl) (hJ23 _ () h _ (ji 4 47 rfl rfl rfl)))))
       exact oK 43 rfl rfl rfl g24 (zW rfl GCon.f5 zij rfl (z := a_c.high)) (oK 43 rfl rfl rfl g24 (zf ty2 rfl) (oK 43 rfl rfl rfl g24 (zbu rfl rfl) (oK 39 rfl rfl rfl g21 (zr rfl g24 rfl) (hJ23 _ () h _ (ji 4 47 rfl rfl rfl)))))
      refine oP 39 rfl rfl g21 (oP 39 rfl rfl g21 (oP 39 rfl rfl g21 (oP 39 rfl rfl g21 (zC rfl (dj := 43) rfl (zC rfl (dj := 43) rfl (zC rfl (dj := 43) rfl (oP 39 rfl rfl g21 (oK 36 rfl rfl rfl g18 (zr rfl g21 rfl) ?_))))))))
      exact hJ20 _ () h _ (ji 9 48 rfl rfl rfl)
     refine zB (j := 31) h rfl (fun g15 h => ?_) (fun g15 h => ?_)
     ·exact oP 31 rfl rfl g15 (oP 31 rfl rfl g15 (oP 31 rfl rfl g15 (oK 22 rfl rfl rfl g9 (zs rfl g15 rfl) (hJ14 _ () h _ (ji 4 35 rfl rfl rfl)))))
     exact oK 31 rfl rfl rfl g15 (zW rfl GCon.f4 zig rfl (z := a_c.low)) (oK 31 rfl rfl rfl g15 (zf ty2 rfl) (oK 31 rfl rfl rfl g15 (zbu rfl rfl) (oK 22 rfl rfl rfl g9 (zr rfl g15 rfl) (hJ14 _ () h _ (ji 4 35 rfl rfl rfl)))))
    refine zB (j := 26) h rfl (fun g12 h => ?_) (fun g12 h => ?_)
    ·exact oP 26 rfl rfl g12 (oP 26 rfl rfl g12 (oP 26 rfl rfl g12 (oK 22 rfl rfl rfl g9 (zs rfl g12 rfl) (hJ11 _ () h _ (ji 4 30 rfl rfl rfl)))))
    exact oK 26 rfl rfl rfl g12 (zW rfl GCon.f4 zig rfl (z := a_c.low)) (oK 26 rfl rfl rfl g12 (zf ty2 rfl) (oK 26 rfl rfl rfl g12 (zaj rfl rfl) (oK 22 rfl rfl rfl g9 (zr rfl g12 rfl) (hJ11 _ () h _ (ji 4 30 rfl rfl rfl)))))
   refine oP 22 rfl rfl g9 (oP 22 rfl rfl g9 (oP 22 rfl rfl g9 (oP 22 rfl rfl g9 (zC rfl (dj := 26) rfl (zC rfl (dj := 26) rfl (zC rfl (dj := 26) rfl (oP 22 rfl rfl g9 (oP 22 rfl rfl g9 ?_))))))))
   refine zC rfl (dj := 31) rfl (zC rfl (dj := 31) rfl (zC rfl (dj := 31) rfl (oP 22 rfl rfl g9 (oP 22 rfl rfl g9 (zC rfl (dj := 36) rfl (zC rfl (dj := 36) rfl (zC rfl (dj := 36) rfl (zC rfl (dj := 39) rfl ?_))))))))
   refine zC rfl (dj := 39) rfl (zC rfl (dj := 39) rfl (zC rfl (dj := 39) rfl (zC rfl (dj := 43) rfl (zC rfl (dj := 43) rfl (zC rfl (dj := 43) rfl (zC rfl (dj := 39) rfl (zC rfl (dj := 36) rfl (oP 22 rfl rfl g9 ?_))))))))
   exact oV (zr rfl g9 rfl) (hJ8 _ () h _ (ji 28 50 rfl rfl rfl))
  refine zB (j := 14) h rfl (fun g6 h => ?_) (fun g6 h => ?_)
  ·exact oK 14 rfl rfl rfl g6 (zW rfl GCon.f4 zig rfl (z := a_c.low)) (oK 14 rfl rfl rfl g6 (zf ty2 rfl) (oK 14 rfl rfl rfl g6 (zW rfl GCon.f5 zij rfl (z := a_c.high)) (oK 14 rfl rfl rfl g6 (zf ty2 rfl) (oK 14 rfl rfl rfl g6 (zbu rfl rfl) (oV (zs rfl g6 rfl) (hJ5 _ () h _ (ji 6 20 rfl rfl rfl)))))))
  exact oP 14 rfl rfl g6 (oP 14 rfl rfl g6 (oP 14 rfl rfl g6 (oP 14 rfl rfl g6 (oP 14 rfl rfl g6 (oV (zr rfl g6 rfl) (hJ5 _ () h _ (ji 6 20 rfl rfl rfl)))))))
 refine zB (j := 10) h rfl (fun g3 h => ?_) (fun g3 h => ?_)
 ·exact oK 10 rfl rfl rfl g3 (zW rfl GCon.f2 zjk rfl (z := a_c.hasHigh)) (oK 10 rfl rfl rfl g3 (zf ty4 rfl) (oV (zs rfl g3 rfl) (hJ2 _ () h _ (ji 3 13 rfl rfl rfl))))
 exact oP 10 rfl rfl g3 (oP 10 rfl rfl g3 (oV (zr rfl g3 rfl) (hJ2 _ () h _ (ji 3 13 rfl rfl rfl))))


theorem zkW : ∀ {a_l : (List GItem)} {a_v : Int} {r : Bool}, zf6 a_l a_v = some r → Ctr Tryz.prog 174 [isv (a_l), isv (a_v)] [] (fun R H => R = oneOf [isv (r)] ∧ H = []) := by
 intro a_l a_v r h
 unfold zf6 at h
 refine zp Tryz.func174 rfl fun w0 S0 hT => wsr (oA rfl (rnf (zj (wsr (oA rfl (rnf (zq ?_)))))))
 refine zaN (ι := Int) (γ := Unit) (fun q1 g1 => [(5, isv (q1))]) (fun q1 g1 => []) h () (za (j := 5) rfl hI zd) .nil (fun L2 q1 g1 Q15 h hL2 eL2 rL2 => zj (wsr (oM rfl (oM rfl (oV (zaR (l := a_l) rfl hI sl84) (oV (zaj rfl rfl) (rnf (zg h rfl (fun _ h => ?_) (fun _ h => ?_)))))))))
 ·refine wkf (zj (zq (wsr (oM rfl (oM rfl (zb h fun y9 hy9 h => oV (zaz (l := a_l) rfl hI rfl sl84 hy9) (oV (zW rfl GItem.f2 zh7 rfl (z := y9.has)) ?_)))))))
  refine oV (zf ty4 rfl) (oM rfl (zau (jb 25) je .nil h 8 rfl (fun q10 g10 h => ?_) (fun J11 h hJ11 => ?_)))
  ·refine rnf (zg h rfl (fun _ h => ?_) (fun _ h => ?_))
   ·refine wsr (oA rfl (rnf (zJ (zH (zA (rL2 _ (zH (zA ?_))))))))
    cases h
    exact zk (.tmp rfl .nil) .nil ⟨rfl, rfl⟩
   refine zac (zi (zx (zh (oM rfl (zz h fun q14 h => oV (zaa rfl rfl q14) (oA rfl (zw ?_)))))))
   exact hL2 _ () h _ (ji 15 5 rfl rfl rfl)
  refine zB (j := 17) h rfl (fun g12 h => ?_) (fun g12 h => ?_)
  ·refine oK 17 rfl rfl rfl g12 (zt rfl) (oK 17 rfl rfl rfl g12 (zt rfl) (zb h fun y13 hy13 h => oK 17 rfl rfl rfl g12 (zaz (l := a_l) rfl hI rfl sl84 hy13) (oK 17 rfl rfl rfl g12 (zW rfl GItem.f1 zc6 rfl (z := y13.number)) (oK 17 rfl rfl rfl g12 (zf ty2 rfl) (oK 17 rfl rfl rfl g12 (zt rfl) (oK 17 rfl rfl rfl g12 (zao rfl rfl) (oV (zs rfl g12 rfl) ?_)))))))
   exact hJ11 _ () h _ (ji 8 25 rfl rfl rfl)
  exact oP 17 rfl rfl g12 (oP 17 rfl rfl g12 (oP 17 rfl rfl g12 (oP 17 rfl rfl g12 (oP 17 rfl rfl g12 (oP 17 rfl rfl g12 (oP 17 rfl rfl g12 (oV (zr rfl g12 rfl) (hJ11 _ () h _ (ji 8 25 rfl rfl rfl)))))))))
 refine zad (zU (eL2 _ _ (zE (zx (wsr (oA rfl (rnf (zJ ?_))))))))
 cases h
 exact zk (.tmp rfl .nil) .nil ⟨rfl, rfl⟩


theorem zfu : ∀ {a_x : GMk} {a_n_ : GNode} {zK : Nat} {zah : Vt} {r : (List GItem) × GMk}, zc3 a_x a_n_ = some r → Ctr Tryz.prog 153 [ptrv zK (Fld.id (GMod × Vh × Int)), isv (a_n_)] [boxE zK ((a_x.m, (Vh.mk zah a_x.l.length), a_x.e) : (GMod × Vh × Int)), vecE zah (a_x.l : List GTyp)] (fun R H => R = oneOf [isv (r.1)] ∧ H = [boxE zK ((r.2.m, (Vh.mk zah r.2.l.length), r.2.e)), vecE zah (r.2.l)]) := by
 intro a_x a_n_ zK zah r h
 unfold zc3 at h
 refine zp Tryz.func153 rfl fun w0 S0 hT => wsr (oT (zaV (y := a_n_) rfl hI (oA rfl (rnf (wsr (oA rfl (rnf (wsr ?_))))))))
 refine oA rfl (rnf (zj (wsr (oA rfl (rnf (zq (zfH (zaI) (zaN (ι := (List GItem) × Int × Int) (γ := Tok) (fun q2 g2 => [(5, appv g2 (q2.1)), (6, isv (q2.2.1)), (7, isv (q2.2.2))]) (fun q2 g2 => [tokE g2]) h (none) (za (j := 5) rfl zbn (za (j := 6) rfl hI (za (j := 7) rfl hI zd))) k1 (fun L3 q2 g2 Q666 h hL3 eL3 rL3 => ?_)))))))))
 refine zj (wsr (oM rfl (oV (zW rfl GNode.f6 zfz rfl (z := a_n_.root)) (oV (zf ty3 rfl) (oV (zaj rfl rfl) (rnf (zg h rfl (fun _ h => ?_) (fun _ h => ?_))))))))
 ·refine wkf (zj (zq (wsr (oV (zW rfl GNode.f4 zey rfl (z := a_n_.items)) (oV (zf ty84 rfl) (oM rfl (zb h fun y335 hy335 h => oV (zaz (l := a_n_.items) rfl hI rfl sl84 hy335) ?_)))))))
  refine oV (zf ty97 rfl) (oT (zaf _ ze97 fun b336 => oT (zm (y' := (y335 : GItem)) ty97 rfl rfl hI .here rfl (rnf (zj (wsr (oV (zag rfl GItem.f2 zh7) (oT (zM (R := isv (y335.has)) ty4 rfl .here hI (oV (zbq rfl) ?_))))))))))
  refine rnf (zdB (ι := Int × GItem) (γ := Unit) (fun q337 g337 => [(6, isv (q337.1))]) (fun q337 g337 => [boxE b336 (q337.2 : GItem)]) k1 h (fun q337 g337 h => ?_) (fun J338 h hJ338 => ?_))
  ·refine wsr (oV (zag rfl GItem.f2 zh7) (oT (zm (y' := ({ q337.2 with has := false } : GItem)) ty4 rfl rfl hI .here rfl (rnf (zh (oM rfl (oT (zM (R := isv ({ q337.2 with has := false })) ty97 rfl .here hI (oT (zY (l := ([{ q337.2 with has := false }] : (List GItem))) el84 (.cons rfl hI .nil) rfl rfl (zal h fun q352 h => ?_)))))))))))
   refine oT (zaZ (l := q2.1) (m := ([{ q337.2 with has := false }] : (List GItem))) ziH rfl hI rfl zF tH q352 fun t351 => oA rfl (zw (zi (zx (zh (oM rfl (zz h fun q353 h => oV (zaa rfl rfl q353) ?_)))))))
   exact oA rfl (zw (hL3 _ (t351) h _ (ze 26 rfl rfl (za (j := 5) rfl hI (za (j := 6) rfl hI (za (j := 7) rfl hI zd))) (.cons .here (.cons tH (.cons tH .nil))))))
  refine zg h rfl (fun _ h => ?_) (fun _ h => ?_)
  ·refine zj (zq (zaN (ι := Int) (γ := Unit) (fun q339 g339 => [(6, isv (q339))]) (fun q339 g339 => []) h () (za (j := 6) rfl hI zd) .nil (fun L340 q339 g339 Q349 h hL340 eL340 rL340 => zj (wsr (oV (zW rfl GNode.f4 zey rfl (z := a_n_.items)) (oV (zf ty84 rfl) (oV (zW rfl GNode.f6 zfz rfl (z := a_n_.root)) (oV (zf ty3 rfl) ?_))))))))
   refine zI h fun q345 h => oV (zfl (l := a_n_.items) rfl hI sl84 (.inl ⟨rfl, rfl⟩) (.inr ⟨_, rfl, rfl⟩) q345.1 q345.2.1 q345.2.2) (oM rfl (zb h fun y346 hy346 h => oT (zy (zkW hy346) hT (s2 rfl rfl) .nil (rnf (zg h rfl (fun _ h => ?_) (fun _ h => ?_))))))
   ·refine wkf (zq (zh (oM rfl (zz h fun q347 h => oV (zaa rfl rfl q347) (oA rfl (zw (zi ?_)))))))
    exact hL340 _ () h _ (ze 11 rfl rfl (za (j := 6) rfl hI zd) k4)
   refine zad (zU (eL340 _ _ (zE (zx (wsr (oM rfl (oV (zag rfl GItem.f1 zc6) (oT (zm (y' := ({ y335 with number := q339 } : GItem)) ty2 rfl rfl hI .here rfl ?_)))))))))
   exact rnf (zh (oM rfl (zz h fun q348 h => oV (zaa rfl rfl q348) (oA rfl (zw (hJ338 _ () h _ (ze 13 rfl rfl (za (j := 6) rfl hI zd) k4)))))))
  exact zac (hJ338 _ () h _ (ze 0 rfl rfl (za (j := 6) rfl hI zd) k4))
 refine zad (zU (eL3 _ _ (zE (zx (wsr (oA rfl (rnf (wsr ?_))))))))
 refine oA rfl (oA rfl (rnf (zj (wsr (oV (zW rfl GNode.f6 zfz rfl (z := a_n_.root)) (oV (zf ty3 rfl) (oA rfl (rnf ?_))))))))
 refine zq (zaN (ι := (List GItem) × Int × Bool × Bool × Int) (γ := Tok) (fun q354 g354 => [(5, appv g354 (q354.1)), (9, isv (q354.2.1)), (10, isv (q354.2.2.1)), (11, isv (q354.2.2.2.1)), (12, isv (q354.2.2.2.2))]) (fun q354 g354 => [tokE g354]) h (g2) (za (j := 5) rfl hI (za (j := 9) rfl hI (za (j := 10) rfl hI (za (j := 11) rfl hI (za (j := 12) rfl hI zd))))) k1 (fun L355 q354 g354 Q664 h hL355 eL355 rL355 => zj (wsr (oM rfl (oV (zW rfl GNode.f4 zey rfl (z := a_n_.items)) (oV (zf ty84 rfl) (oV (zaR (l := a_n_.items) rfl hI sl84) (oV (zaj rfl rfl) ?_))))))))
 refine rnf (zg h rfl (fun _ h => ?_) (fun _ h => ?_))
 ·refine wkf (zj (zq (wsr (oV (zW rfl GNode.f4 zey rfl (z := a_n_.items)) (oV (zf ty84 rfl) (oM rfl (zb h fun y558 hy558 h => oV (zaz (l := a_n_.items) rfl hI rfl sl84 hy558) ?_)))))))
  refine oV (zf ty97 rfl) (oT (zaf _ ze97 fun b559 => oT (zm (y' := (y558 : GItem)) ty97 rfl rfl hI .here rfl (rnf (zj (wsr (oV (zag rfl GItem.f2 zh7) (oT (zM (R := isv (y558.has)) ty4 rfl .here hI (oV (zbq rfl) ?_))))))))))
  refine rnf (zdB (ι := GItem) (γ := Unit) (fun q560 g560 => [(13, ptrv b559 (Fld.id GItem))]) (fun q560 g560 => [boxE b559 (q560 : GItem)]) k1 h (fun q560 g560 h => ?_) (fun J561 h hJ561 => ?_))
  ·refine wsr (oM rfl (oM rfl (zau (jb 109) je .nil h 8 rfl (fun q591 g591 h => ?_) (fun J592 h hJ592 => ?_))))
   ·refine oA rfl (rnf (wsr (oV (zag rfl GItem.f2 zh7) (oT (zm (y' := ({ q560 with has := false } : GItem)) ty4 rfl rfl hI .here rfl (rnf (wsr (oV (zag rfl GItem.f1 zc6) (oT (zM (R := isv (q560.number)) ty2 rfl .here hI ?_))))))))))
    refine oA rfl (oA rfl (rnf (zh (oM rfl (oT (zM (R := isv ({ q560 with has := false })) ty97 rfl .here hI (oT (zY (l := ([{ q560 with has := false }] : (List GItem))) el84 (.cons rfl hI .nil) rfl rfl (zal h fun q599 h => oT (zaZ (l := q354.1) (m := ([{ q560 with has := false }] : (List GItem))) ziH rfl hI rfl zF tH q599 fun t598 => ?_))))))))))
    refine oA rfl (zw (zi (zx (zh (oM rfl (zz h fun q600 h => oV (zaa rfl rfl q600) (oA rfl ?_)))))))
    exact zw (hL355 _ (t598) h _ (ze 37 rfl rfl (za (j := 5) rfl hI (za (j := 9) rfl hI (za (j := 10) rfl hI (za (j := 11) rfl hI (za (j := 12) rfl hI zd))))) (.cons .here (.cons tH (.cons tH .nil)))))
   refine zB (j := 101) h rfl (fun g593 h => ?_) (fun g593 h => ?_)
   ·exact oP 101 rfl rfl g593 (oP 101 rfl rfl g593 (zC rfl (dj := 103) rfl (zC rfl (dj := 103) rfl (zC rfl (dj := 103) rfl (zC rfl (dj := 103) rfl (oP 101 rfl rfl g593 (oV (zs rfl g593 rfl) (hJ592 _ () h _ (ze 8 rfl rfl (za (j := 109) rfl hI zd) k4)))))))))
   refine oK 101 rfl rfl rfl g593 (zt rfl) (oK 101 rfl rfl rfl g593 (zt rfl) (zau (jb 108) je .nil h 5 rfl (fun q594 g594 h => ?_) (fun J595 h hJ595 => ?_)))
   ·exact oV (zr rfl g593 rfl) (hJ592 _ () h _ (ze 4 rfl rfl (za (j := 109) rfl hI zd) k4))
   refine zB (j := 103) h rfl (fun g596 h => ?_) (fun g596 h => ?_)
   ·exact oK 103 rfl rfl rfl g596 (zag rfl GItem.f1 zc6) (zaD rfl rfl (dj := 103) rfl g596 (zM (R := isv (q560.number)) ty2 rfl .here hI (oK 103 rfl rfl rfl g596 (zt rfl) (oK 103 rfl rfl rfl g596 (ziQ rfl rfl) (oK 101 rfl rfl rfl g593 (zs rfl g596 rfl) (hJ595 _ () h _ (ze 5 rfl rfl (za (j := 108) rfl hI zd) k4)))))))
   exact oP 103 rfl rfl g596 (oP 103 rfl rfl g596 (oP 103 rfl rfl g596 (oP 103 rfl rfl g596 (oK 101 rfl rfl rfl g593 (zr rfl g596 rfl) (hJ595 _ () h _ (ze 5 rfl rfl (za (j := 108) rfl hI zd) k4))))))
  refine zg h rfl (fun _ h => ?_) (fun _ h => ?_)
  ·refine wsr (oV (zag rfl GItem.f1 zc6) (oT (zm (y' := ({ y558 with number := (0 : Int) } : GItem)) ty2 rfl rfl hI .here rfl (rnf (wsr (oA rfl (rnf (zq (zaN (ι := Int × GItem) (γ := Unit) (fun q562 g562 => [(13, ptrv b559 (Fld.id GItem)), (14, isv (q562.1))]) (fun q562 g562 => [boxE b559 (q562.2 : GItem)]) h () (za (j := 13) rfl hI (za (j := 14) rfl hI zd)) k1 (fun L563 q562 g562 Q590 h hL563 eL563 rL563 => ?_))))))))))
   refine zj (wsr (oM rfl (oM rfl (oV (zaR (l := q354.1) rfl zF sl84) (oV (zaj rfl rfl) (rnf (zg h rfl (fun _ h => ?_) (fun _ h => ?_))))))))
   ·refine wkf (zj (zdB (ι := GItem) (γ := Unit) (fun q577 g577 => [(13, ptrv b559 (Fld.id GItem))]) (fun q577 g577 => [boxE b559 (q577 : GItem)]) k1 h (fun q577 g577 h => ?_) (fun J578 h hJ578 => ?_)))
    ·exact zh (oM rfl (zz h fun q589 h => oV (zaa rfl rfl q589) (oA rfl (zw (hL563 _ () h _ (ze 10 rfl rfl (za (j := 13) rfl hI (za (j := 14) rfl hI zd)) k4))))))
    refine zq (zj (wsr (oM rfl (oM rfl (zb h fun y579 hy579 h => oV (zaz (l := q354.1) rfl zF rfl sl84 hy579) (oV (zW rfl GItem.f1 zc6 rfl (z := y579.number)) (oV (zf ty2 rfl) ?_)))))))
    refine oV (zao rfl rfl) (rnf (zg h rfl (fun _ h => ?_) (fun _ h => ?_)))
    ·refine wsr (oM rfl (zb h fun y580 hy580 h => oT (zy (zbh hy580) hT (s2 rfl rfl) (.cons tI (.cons tI .nil)) (rnf (wsr (oA rfl (rnf (zJ ?_))))))))
     refine zA (zH (zA (rL563 _ (zH (zA (zH (zA (rL355 _ ?_))))))))
     refine zH (zA ?_)
     cases h
     exact zk (.as rfl (zcv (α := GItem)) .nil) k2 ⟨rfl, rfl⟩
    refine wkf (zj (zc7 13 .here rfl (fun o581 hn582 => zS (.v 0 (.v 1 (.v 2 (.v 3 (.v 4 (.v 5 (.v 6 (.v 7 (.v 8 (.v 9 (.v 10 (.v 11 .nil)))))))))))) moOrd (by kernel_rfl) ?_)))
    refine rvm rfl rfl (zo rfl (zao rfl rfl) (rvm rfl rfl (zc8 (jb 92) je .nil h 9 rfl (fun q583 g583 h => ?_) (fun J584 h hJ584 => ?_))))
    ·refine zab (zaO 13 hn582 rfl (zx (zg h rfl (fun _ h => ?_) (fun _ h => ?_))))
     ·refine zh (oM rfl (oM rfl (zb h fun y587 hy587 h => oV (zaz (l := q354.1) rfl zF rfl sl84 hy587) (oV (zW rfl GItem.f1 zc6 rfl (z := y587.number)) (oV (zf ty2 rfl) (zz h fun q588 h => oV (zaa rfl rfl q588) ?_))))))
      exact oV (zag rfl GItem.f1 zc6) (oT (zm (y' := ({ q562.2 with number := (y587.number + (1 : Int)) } : GItem)) ty2 rfl rfl hI .here rfl (zw (zi (hJ578 _ () h _ (ze 19 rfl rfl (za (j := 13) rfl hI zd) k4))))))
     exact zac (zi (hJ578 _ () h _ (ze 12 rfl rfl (za (j := 13) rfl hI zd) k4)))
    refine zaA (j := 83) h rfl (fun g585 h => ?_) (fun g585 h => ?_)
    ·refine rpv 83 rfl rfl rfl g585 (rpv 83 rfl rfl rfl g585 (rpv 83 rfl rfl rfl g585 (rpv 83 rfl rfl rfl g585 (rpv 83 rfl rfl rfl g585 (rpv 83 rfl rfl rfl g585 (rpv 83 rfl rfl rfl g585 (rpv 83 rfl rfl rfl g585 (zo rfl (zs rfl g585 rfl) ?_))))))))
     exact hJ584 _ () h _ (ze 9 rfl rfl (za (j := 92) rfl hI zd) k3)
    refine rvt 83 rfl rfl rfl g585 (zt rfl) (rvt 83 rfl rfl rfl g585 (zt rfl) (zb h fun y586 hy586 h => rvt 83 rfl rfl rfl g585 (zaz (l := q354.1) rfl zF rfl sl84 hy586) (rvt 83 rfl rfl rfl g585 (zW rfl GItem.f1 zc6 rfl (z := y586.number)) (rvt 83 rfl rfl rfl g585 (zf ty2 rfl) (rvt 83 rfl rfl rfl g585 (zga rfl GItem.f1 zc6) (rvt 83 rfl rfl rfl g585 (zdk (R := isv (q562.2.number)) ty2 rfl (List.Mem.head _) hI) (rvt 83 rfl rfl rfl g585 (zeV rfl rfl) ?_)))))))
    exact zo rfl (zr rfl g585 rfl) (hJ584 _ () h _ (ze 9 rfl rfl (za (j := 92) rfl hI zd) k3))
   exact zad (zU (eL563 _ _ (zE (hJ561 _ () h _ (ze 8 rfl rfl (za (j := 13) rfl hI zd) k4)))))
  exact zac (hJ561 _ () h _ (ze 0 rfl rfl (za (j := 13) rfl hI zd) k4))
 refine zad (zU (eL355 _ _ (zE (zx (zj (wsr (oA rfl (rnf ?_))))))))
 refine zq (zaN (ι := Bool × Int) (γ := Unit) (fun q601 g601 => [(11, isv (q601.1)), (15, isv (q601.2))]) (fun q601 g601 => []) h () (za (j := 11) rfl hI (za (j := 15) rfl hI zd)) .nil (fun L602 q601 g601 Q663 h hL602 eL602 rL602 => zj (wsr (oM rfl (oM rfl (oV (zaR (l := q354.1) rfl zF sl84) (oV (zaj rfl rfl) (rnf ?_))))))))
 refine zg h rfl (fun _ h => ?_) (fun _ h => ?_)
 ·refine wkf (zj (zq (wsr (oA rfl (rnf (zq (zaN (ι := Bool × Int) (γ := Unit) (fun q633 g633 => [(11, isv (q633.1)), (16, isv (q633.2))]) (fun q633 g633 => []) h () (za (j := 11) rfl hI (za (j := 16) rfl hI zd)) .nil (fun L634 q633 g633 Q659 h hL634 eL634 rL634 => zj ?_))))))))
  refine wsr (oM rfl (oM rfl (oV (zaj rfl rfl) (rnf (zg h rfl (fun _ h => ?_) (fun _ h => ?_))))))
  ·refine wkf (zj (zq (zS (.v 0 (.v 1 (.v 2 (.v 3 (.v 4 (.v 5 (.v 6 (.v 7 (.v 8 (.v 9 (.v 10 (.v 11 (.v 12 (.v 13 (.v 14 (.v 15 (.v 16 (.v 17 (.v 18 (.v 19 (.v 20 (.v 21 (.v 22 (.v 23 (.v 24 (.v 25 (.v 26 (.v 27 .nil)))))))))))))))))))))))))))) moOrd (by kernel_rfl) ?_)))
   refine rvm rfl rfl (rvm rfl rfl (zc8 (jb 141) je .nil h 12 rfl (fun q647 g647 h => ?_) (fun J648 h hJ648 => ?_)))
   ·refine rvm rfl rfl (zc8 (jb 154) je .nil h 12 rfl (fun q652 g652 h => ?_) (fun J653 h hJ653 => ?_))
    ·refine zo rfl (zaP rfl) (zab (zi (zx (zh (oM rfl (zz h fun q657 h => oV (zaa rfl rfl q657) (oA rfl ?_)))))))
     exact zw (hL634 _ () h _ (ze 14 rfl rfl (za (j := 11) rfl hI (za (j := 16) rfl hI zd)) k3))
    refine zaA (j := 142) h rfl (fun g654 h => ?_) (fun g654 h => ?_)
    ·refine rpv 142 rfl rfl rfl g654 (rpv 142 rfl rfl rfl g654 (rpv 142 rfl rfl rfl g654 (rpv 142 rfl rfl rfl g654 (rpv 142 rfl rfl rfl g654 (rpv 142 rfl rfl rfl g654 (rpv 142 rfl rfl rfl g654 (rpv 142 rfl rfl rfl g654 (rpv 142 rfl rfl rfl g654 ?_))))))))
     exact rpv 142 rfl rfl rfl g654 (rpv 142 rfl rfl rfl g654 (zo rfl (zs rfl g654 rfl) (hJ653 _ () h _ (ze 12 rfl rfl (za (j := 154) rfl hI zd) k3))))
    refine rvt 142 rfl rfl rfl g654 (zt rfl) (rvt 142 rfl rfl rfl g654 (zt rfl) (zb h fun y655 hy655 h => rvt 142 rfl rfl rfl g654 (zaz (l := q354.1) rfl zF rfl sl84 hy655) (rvt 142 rfl rfl rfl g654 (zW rfl GItem.f1 zc6 rfl (z := y655.number)) (rvt 142 rfl rfl rfl g654 (zf ty2 rfl) (rvt 142 rfl rfl rfl g654 (zt rfl) (rvt 142 rfl rfl rfl g654 (zt rfl) (zb h fun y656 hy656 h => ?_)))))))
    exact rvt 142 rfl rfl rfl g654 (zaz (l := q354.1) rfl zF rfl sl84 hy656) (rvt 142 rfl rfl rfl g654 (zW rfl GItem.f1 zc6 rfl (z := y656.number)) (rvt 142 rfl rfl rfl g654 (zf ty2 rfl) (rvt 142 rfl rfl rfl g654 (zao rfl rfl) (zo rfl (zr rfl g654 rfl) (hJ653 _ () h _ (ze 12 rfl rfl (za (j := 154) rfl hI zd) k3))))))
   refine zaA (j := 129) h rfl (fun g649 h => ?_) (fun g649 h => ?_)
   ·refine rpv 129 rfl rfl rfl g649 (rpv 129 rfl rfl rfl g649 (rpv 129 rfl rfl rfl g649 (rpv 129 rfl rfl rfl g649 (rpv 129 rfl rfl rfl g649 (rpv 129 rfl rfl rfl g649 (rpv 129 rfl rfl rfl g649 (rpv 129 rfl rfl rfl g649 (rpv 129 rfl rfl rfl g649 ?_))))))))
    exact rpv 129 rfl rfl rfl g649 (rpv 129 rfl rfl rfl g649 (zo rfl (zs rfl g649 rfl) (hJ648 _ () h _ (ze 12 rfl rfl (za (j := 141) rfl hI zd) k3))))
   refine rvt 129 rfl rfl rfl g649 (zt rfl) (rvt 129 rfl rfl rfl g649 (zt rfl) (zb h fun y650 hy650 h => rvt 129 rfl rfl rfl g649 (zaz (l := q354.1) rfl zF rfl sl84 hy650) (rvt 129 rfl rfl rfl g649 (zW rfl GItem.f0 zkm rfl (z := y650.name)) (rvt 129 rfl rfl rfl g649 (zf ty9 rfl) (rvt 129 rfl rfl rfl g649 (zt rfl) (rvt 129 rfl rfl rfl g649 (zt rfl) (zb h fun y651 hy651 h => ?_)))))))
   exact rvt 129 rfl rfl rfl g649 (zaz (l := q354.1) rfl zF rfl sl84 hy651) (rvt 129 rfl rfl rfl g649 (zW rfl GItem.f0 zkm rfl (z := y651.name)) (rvt 129 rfl rfl rfl g649 (zf ty9 rfl) (rvt 129 rfl rfl rfl g649 (zcz eq9 rfl rfl) (zo rfl (zr rfl g649 rfl) (hJ648 _ () h _ (ze 12 rfl rfl (za (j := 141) rfl hI zd) k3))))))
  refine zad (zU (eL634 _ _ (zE (zi (zx (zh (oM rfl (zz h fun q658 h => ?_))))))))
  exact oV (zaa rfl rfl q658) (oA rfl (zw (hL602 _ () h _ (ze 15 rfl rfl (za (j := 11) rfl hI (za (j := 15) rfl hI zd)) k3))))
 refine zad (zU (eL602 _ _ (zE (zx (zj (wsr (oM rfl (rnf ?_))))))))
 refine zdB (ι := GMk) (γ := Unit) (fun q660 g660 => []) (fun q660 g660 => [boxE zK ((q660.m, (Vh.mk zah q660.l.length), q660.e) : (GMod × Vh × Int)), vecE zah (q660.l : List GTyp)]) (.cons tH (.cons tH .nil)) h (fun q660 g660 h => ?_) (fun J661 h hJ661 => ?_)
 ·refine wsr (oM rfl (oA rfl (rnf (zJ ?_))))
  cases h
  exact zk (.as rfl zF .nil) k2 ⟨rfl, rfl⟩
 refine zg h rfl (fun _ h => ?_) (fun _ h => ?_)
 ·exact zh (oM rfl (zb h fun y662 hy662 h => oT (zy (zbh hy662) hT (s2 rfl rfl) (.cons tH (.cons tH .nil)) (zw (hJ661 _ () h _ (ze 2 rfl rfl zd k3))))))
 exact zac (hJ661 _ () h _ (ze 0 rfl rfl zd (.cons tH (.cons tH k1))))


theorem zh0 : ∀ {a_c : GCon} {a_v : Int} {r : Bool}, zem a_c a_v = some r → Ctr Tryz.prog 91 [isv (a_c), isv (a_v)] [] (fun R H => R = oneOf [isv (r)] ∧ H = []) := by
 intro a_c a_v r h
 unfold zem at h
 refine zp Tryz.func91 rfl fun w0 S0 hT => wsr (oT (zaV (y := a_c) rfl hI (oA rfl (rnf (wsr (oV (zW rfl GCon.f0 zlH rfl (z := a_c.has)) (oV (zf ty4 rfl) (oV (zbq rfl) ?_))))))))
 refine oM rfl (zau (jb 29) je .nil h 21 rfl (fun q1 g1 h => ?_) (fun J2 h hJ2 => ?_))
 ·refine oA rfl (rnf (zJ ?_))
  cases h
  exact zk (.tmp rfl .nil) .nil ⟨rfl, rfl⟩
 refine zB (j := 8) h rfl (fun g3 h => ?_) (fun g3 h => ?_)
 ·refine oP 8 rfl rfl g3 (oP 8 rfl rfl g3 (oP 8 rfl rfl g3 (oP 8 rfl rfl g3 (zC rfl (dj := 12) rfl (zC rfl (dj := 12) rfl (zC rfl (dj := 12) rfl (zC rfl (dj := 12) rfl (oP 8 rfl rfl g3 ?_))))))))
  refine oP 8 rfl rfl g3 (zC rfl (dj := 18) rfl (zC rfl (dj := 18) rfl (zC rfl (dj := 18) rfl (zC rfl (dj := 18) rfl (zC rfl (dj := 22) rfl (zC rfl (dj := 22) rfl (zC rfl (dj := 22) rfl (zC rfl (dj := 22) rfl ?_))))))))
  exact zC rfl (dj := 18) rfl (oP 8 rfl rfl g3 (oV (zs rfl g3 rfl) (hJ2 _ () h _ (ji 21 29 rfl rfl rfl))))
 refine oK 8 rfl rfl rfl g3 (zW rfl GCon.f1 zi6 rfl (z := a_c.hasLow)) (oK 8 rfl rfl rfl g3 (zf ty4 rfl) (oK 8 rfl rfl rfl g3 (zbq rfl) (oK 8 rfl rfl rfl g3 (zt rfl) (zau (jb 17) je .nil h 5 rfl (fun q4 g4 h => ?_) (fun J5 h hJ5 => ?_)))))
 ·refine oK 8 rfl rfl rfl g3 (zt rfl) (zau (jb 28) je .nil h 10 rfl (fun q7 g7 h => ?_) (fun J8 h hJ8 => ?_))
  ·exact oV (zr rfl g3 rfl) (hJ2 _ () h _ (ji 8 29 rfl rfl rfl))
  refine zB (j := 18) h rfl (fun g9 h => ?_) (fun g9 h => ?_)
  ·refine oK 18 rfl rfl rfl g9 (zW rfl GCon.f2 zjk rfl (z := a_c.hasHigh)) (oK 18 rfl rfl rfl g9 (zf ty4 rfl) (oK 18 rfl rfl rfl g9 (zbq rfl) (oK 18 rfl rfl rfl g9 (zt rfl) (zau (jb 27) je .nil h 5 rfl (fun q10 g10 h => ?_) (fun J11 h hJ11 => ?_)))))
   ·exact oK 8 rfl rfl rfl g3 (zs rfl g9 rfl) (hJ8 _ () h _ (ji 6 28 rfl rfl rfl))
   refine zB (j := 22) h rfl (fun g12 h => ?_) (fun g12 h => ?_)
   ·exact oP 22 rfl rfl g12 (oP 22 rfl rfl g12 (oP 22 rfl rfl g12 (oP 22 rfl rfl g12 (oK 18 rfl rfl rfl g9 (zs rfl g12 rfl) (hJ11 _ () h _ (ji 5 27 rfl rfl rfl))))))
   exact oK 22 rfl rfl rfl g12 (zt rfl) (oK 22 rfl rfl rfl g12 (zW rfl GCon.f5 zij rfl (z := a_c.high)) (oK 22 rfl rfl rfl g12 (zf ty2 rfl) (oK 22 rfl rfl rfl g12 (ziQ rfl rfl) (oK 18 rfl rfl rfl g9 (zr rfl g12 rfl) (hJ11 _ () h _ (ji 5 27 rfl rfl rfl))))))
  refine oP 18 rfl rfl g9 (oP 18 rfl rfl g9 (oP 18 rfl rfl g9 (oP 18 rfl rfl g9 (zC rfl (dj := 22) rfl (zC rfl (dj := 22) rfl (zC rfl (dj := 22) rfl (zC rfl (dj := 22) rfl (oP 18 rfl rfl g9 ?_))))))))
  exact oK 8 rfl rfl rfl g3 (zr rfl g9 rfl) (hJ8 _ () h _ (ji 10 28 rfl rfl rfl))
 refine zB (j := 12) h rfl (fun g6 h => ?_) (fun g6 h => ?_)
 ·exact oP 12 rfl rfl g6 (oP 12 rfl rfl g6 (oP 12 rfl rfl g6 (oP 12 rfl rfl g6 (oK 8 rfl rfl rfl g3 (zs rfl g6 rfl) (hJ5 _ () h _ (ji 5 17 rfl rfl rfl))))))
 exact oK 12 rfl rfl rfl g6 (zt rfl) (oK 12 rfl rfl rfl g6 (zW rfl GCon.f4 zig rfl (z := a_c.low)) (oK 12 rfl rfl rfl g6 (zf ty2 rfl) (oK 12 rfl rfl rfl g6 (zeV rfl rfl) (oK 8 rfl rfl rfl g3 (zr rfl g6 rfl) (hJ5 _ () h _ (ji 5 17 rfl rfl rfl))))))


theorem zbB : ∀ {a_s : (List UInt8)} {r : UInt64}, za1 a_s = some r → Ctr Tryz.prog 131 [isv (a_s)] [] (fun R H => R = oneOf [isv (r)] ∧ H = []) := by
 intro a_s r h
 unfold za1 at h
 refine zp Tryz.func131 rfl fun w0 S0 hT => wsr (oA rfl (rnf (zj (znG rfl rfl (wkf (zj (zS (.v 0 (.v 1 (.v 2 (.v 3 (.v 4 (.v 5 (.v 6 (.v 7 (.v 8 (.v 9 (.v 10 (.v 11 (.v 12 (.v 13 (.v 14 (.v 15 (.v 16 (.v 17 (.v 18 (.v 19 (.v 20 (.v 21 (.v 22 (.v 23 (.v 24 (.v 25 (.v 26 (.v 27 (.v 28 (.v 29 (.v 30 (.v 31 (.v 32 (.v 33 (.v 34 (.v 35 (.v 36 (.v 37 (.v 38 (.v 39 (.v 40 (.v 41 (.v 42 (.v 43 (.v 44 (.v 45 (.v 46 .nil))))))))))))))))))))))))))))))))))))))))))))))) moOrd (by kernel_rfl) ?_)))))))
 refine rvm rfl rfl (zb h fun y1 hy1 h => zo rfl (zaz (l := a_s) rfl hI rfl sl42 hy1) (zo rfl (zf ty5 rfl) (zo rfl (zez Tryz.underlying5 Tryz.underlying41 rfl) (rvm rfl rfl (zb h fun y2 hy2 h => zo rfl (zaz (l := a_s) rfl hI rfl sl42 hy2) (zo rfl (zf ty5 rfl) ?_))))))
 refine zo rfl (zez Tryz.underlying5 Tryz.underlying41 rfl) (zal h fun q3 h => zo rfl (zgi rfl rfl q3) (zo rfl (zfq rfl rfl) (rvm rfl rfl (zb h fun y4 hy4 h => zo rfl (zaz (l := a_s) rfl hI rfl sl42 hy4) (zo rfl (zf ty5 rfl) (zo rfl (zez Tryz.underlying5 Tryz.underlying41 rfl) ?_))))))
 refine zal h fun q5 h => zo rfl (zgi rfl rfl q5) (zo rfl (zfq rfl rfl) (rvm rfl rfl (zb h fun y6 hy6 h => zo rfl (zaz (l := a_s) rfl hI rfl sl42 hy6) (zo rfl (zf ty5 rfl) (zo rfl (zez Tryz.underlying5 Tryz.underlying41 rfl) (zal h fun q7 h => ?_))))))
 refine zo rfl (zgi rfl rfl q7) (zo rfl (zfq rfl rfl) (rvm rfl rfl (zb h fun y8 hy8 h => zo rfl (zaz (l := a_s) rfl hI rfl sl42 hy8) (zo rfl (zf ty5 rfl) (zo rfl (zez Tryz.underlying5 Tryz.underlying41 rfl) (zal h fun q9 h => zo rfl (zgi rfl rfl q9) ?_))))))
 refine zo rfl (zfq rfl rfl) (rvm rfl rfl (zb h fun y10 hy10 h => zo rfl (zaz (l := a_s) rfl hI rfl sl42 hy10) (zo rfl (zf ty5 rfl) (zo rfl (zez Tryz.underlying5 Tryz.underlying41 rfl) (zal h fun q11 h => zo rfl (zgi rfl rfl q11) (zo rfl (zfq rfl rfl) ?_))))))
 refine rvm rfl rfl (zb h fun y12 hy12 h => zo rfl (zaz (l := a_s) rfl hI rfl sl42 hy12) (zo rfl (zf ty5 rfl) (zo rfl (zez Tryz.underlying5 Tryz.underlying41 rfl) (zal h fun q13 h => zo rfl (zgi rfl rfl q13) (zo rfl (zfq rfl rfl) (rvm rfl rfl ?_))))))
 refine zb h fun y14 hy14 h => zo rfl (zaz (l := a_s) rfl hI rfl sl42 hy14) (zo rfl (zf ty5 rfl) (zo rfl (zez Tryz.underlying5 Tryz.underlying41 rfl) (zal h fun q15 h => zo rfl (zgi rfl rfl q15) (zo rfl (zfq rfl rfl) (zo rfl (zaP rfl) (zab ?_))))))
 refine zx (zJ ?_)
 cases h
 exact zk (.tmp rfl .nil) .nil ⟨rfl, rfl⟩


theorem zjW : ∀ {a_p : (List UInt8)} {r : Bool}, zfi a_p = some r → Ctr Tryz.prog 93 [isv (a_p)] [] (fun R H => R = oneOf [isv (r)] ∧ H = []) := by
 intro a_p r h
 unfold zfi at h
 refine zp Tryz.func93 rfl fun w0 S0 hT => wsr (oA rfl (rnf (wsr (oM rfl (oM rfl (oV (zaR (l := a_p) rfl hI sl42) (oM rfl ?_)))))))
 refine oV (zaR (l := a_p) rfl hI sl42) (zI h fun q1 h => oV (zpm (l := a_p) rfl hI sl42 rfl rfl q1.1 q1.2) (oA rfl (rnf (zj (zq (zaN (ι := (List UInt8)) (γ := Unit) (fun q2 g2 => [(0, isv (q2))]) (fun q2 g2 => []) h () (za (j := 0) rfl hI zd) .nil (fun L3 q2 g2 Q194 h hL3 eL3 rL3 => zj ?_)))))))
 refine wsr (oM rfl (oV (zaR (l := q2) rfl hI sl42) (oV (zbu rfl rfl) (rnf (zg h rfl (fun _ h => ?_) (fun _ h => ?_))))))
 ·refine wkf (zq (wsr (oM rfl (zb h fun y99 hy99 h => oV (zaz (l := q2) rfl hI rfl sl42 hy99) (oV (zf ty5 rfl) (oA rfl (rnf ?_)))))))
  refine zj (wsr (oM rfl (oV (zex rfl rfl) (rnf (zg h rfl (fun _ h => ?_) (fun _ h => ?_))))))
  ·refine wsr (oM rfl (zI h fun q100 h => oV (zfl (l := q2) rfl hI sl42 (.inr ⟨_, rfl, rfl⟩) (.inl ⟨rfl, rfl⟩) q100.1 q100.2.1 q100.2.2) (oA rfl (rnf (zj (wsr (oM rfl ?_)))))))
   refine oV (zaR (l := ((q2.take ((q2.length : Int)).toNat).drop ((1 : Int)).toNat)) rfl hI sl42) (oV (zbu rfl rfl) (oM rfl (zau (jb 31) je .nil h 5 rfl (fun q101 g101 h => ?_) (fun J102 h hJ102 => ?_))))
   ·refine rnf (zdB (ι := (List UInt8)) (γ := Unit) (fun q105 g105 => [(0, isv (q105))]) (fun q105 g105 => []) .nil h (fun q105 g105 h => ?_) (fun J106 h hJ106 => ?_))
    ·exact zad (zU (zE (hL3 _ () h _ (ji 19 0 rfl rfl rfl))))
    refine zg h rfl (fun _ h => ?_) (fun _ h => ?_)
    ·refine wsr (oM rfl (zI h fun q107 h => oV (zfl (l := ((q2.take ((q2.length : Int)).toNat).drop ((1 : Int)).toNat)) rfl hI sl42 (.inr ⟨_, rfl, rfl⟩) (.inl ⟨rfl, rfl⟩) q107.1 q107.2.1 q107.2.2) (oA rfl (rnf (zj (zS (.v 0 (.v 1 (.v 2 (.v 3 (.v 4 (.v 6 (.v 7 (.t 5 (.t 8 (.v 9 (.v 10 (.v 11 (.v 12 .nil))))))))))))) moOrd (by kernel_rfl) ?_))))))
     refine rvm rfl rfl (zo rfl (zaR (l := ((((q2.take ((q2.length : Int)).toNat).drop ((1 : Int)).toNat).take ((((q2.take ((q2.length : Int)).toNat).drop ((1 : Int)).toNat).length : Int)).toNat).drop ((8 : Int)).toNat)) rfl hI sl42) (zo rfl (zbu rfl rfl) (rvm rfl rfl (zc8 (jb 46) je .nil h 9 rfl (fun q108 g108 h => ?_) (fun J109 h hJ109 => ?_)))))
     ·refine zab (zx (zg h rfl (fun _ h => ?_) (fun _ h => ?_)))
      ·refine wsr (oM rfl (zI h fun q114 h => oV (zfl (l := ((((q2.take ((q2.length : Int)).toNat).drop ((1 : Int)).toNat).take ((((q2.take ((q2.length : Int)).toNat).drop ((1 : Int)).toNat).length : Int)).toNat).drop ((8 : Int)).toNat)) rfl hI sl42 (.inr ⟨_, rfl, rfl⟩) (.inl ⟨rfl, rfl⟩) q114.1 q114.2.1 q114.2.2) (oA rfl (rnf (zq (zaN (ι := (List UInt8)) (γ := Unit) (fun q115 g115 => [(0, isv (q115))]) (fun q115 g115 => []) h () (za (j := 0) rfl hI zd) .nil (fun L116 q115 g115 Q139 h hL116 eL116 rL116 => zj ?_)))))))
       refine zj (zS (.v 0 (.v 1 (.v 2 (.v 3 (.v 4 (.v 6 (.v 7 (.v 10 (.v 11 (.v 13 (.v 14 (.t 5 (.t 8 (.v 9 (.t 12 (.t 15 (.v 16 (.v 17 (.v 18 (.v 19 (.v 20 .nil))))))))))))))))))))) moOrd (by kernel_rfl) ?_)
       refine rvm rfl rfl (zo rfl (zaR (l := q115) rfl hI sl42) (zo rfl (zbu rfl rfl) (rvm rfl rfl (zc8 (jb 69) je .nil h 17 rfl (fun q128 g128 h => ?_) (fun J129 h hJ129 => ?_)))))
       ·refine zab (zx (zg h rfl (fun _ h => ?_) (fun _ h => ?_)))
        ·refine wkf (zq (zh (oM rfl (zI h fun q138 h => oV (zfl (l := q115) rfl hI sl42 (.inr ⟨_, rfl, rfl⟩) (.inl ⟨rfl, rfl⟩) q138.1 q138.2.1 q138.2.2) (oA rfl (zw (zi ?_)))))))
         exact hL116 _ () h _ (ji 9 0 rfl rfl rfl)
        exact zad (zU (eL116 _ _ (zE (hJ106 _ () h _ (ji 17 0 rfl rfl rfl)))))
       refine zaA (j := 52) h rfl (fun g130 h => ?_) (fun g130 h => ?_)
       ·refine rvt 52 rfl rfl rfl g130 (zt rfl) (rvt 52 rfl rfl rfl g130 (zt rfl) (zI h fun q131 h => rvt 52 rfl rfl rfl g130 (zfl (l := q115) rfl hI sl42 (.inr ⟨_, rfl, rfl⟩) (.inl ⟨rfl, rfl⟩) q131.1 q131.2.1 q131.2.2) (rvt 52 rfl rfl rfl g130 (zt rfl) (zI h fun q132 h => rvt 52 rfl rfl rfl g130 (zfl (l := q115) rfl hI sl42 (.inr ⟨_, rfl, rfl⟩) (.inl ⟨rfl, rfl⟩) q132.1 q132.2.1 q132.2.2) (rvt 52 rfl rfl rfl g130 (zt rfl) (zI h fun q133 h => ?_))))))
        refine rvt 52 rfl rfl rfl g130 (zfl (l := q115) rfl hI sl42 (.inr ⟨_, rfl, rfl⟩) (.inl ⟨rfl, rfl⟩) q133.1 q133.2.1 q133.2.2) (zb h fun y134 hy134 h => zc2 rfl rfl rfl (dj := 52) rfl g130 (zy (zbB hy134) hT (s1 rfl) .nil (zb h fun y135 hy135 h => zc2 rfl rfl rfl (dj := 52) rfl g130 (zy (zbB hy135) hT (s1 rfl) .nil (rvt 52 rfl rfl rfl g130 (zfq rfl rfl) (zb h fun y136 hy136 h => zc2 rfl rfl rfl (dj := 52) rfl g130 (zy (zbB hy136) hT (s1 rfl) .nil (zb h fun y137 hy137 h => ?_))))))))
        exact zc2 rfl rfl rfl (dj := 52) rfl g130 (zy (zbB hy137) hT (s1 rfl) .nil (rvt 52 rfl rfl rfl g130 (zfq rfl rfl) (rvt 52 rfl rfl rfl g130 (zfq rfl rfl) (rvt 52 rfl rfl rfl g130 (zjY rfl rfl) (rvt 52 rfl rfl rfl g130 (ziI rfl rfl) (zo rfl (zs rfl g130 rfl) (hJ129 _ () h _ (ji 17 69 rfl rfl rfl))))))))
       refine rpv 52 rfl rfl rfl g130 (rpv 52 rfl rfl rfl g130 (rpv 52 rfl rfl rfl g130 (rpv 52 rfl rfl rfl g130 (rpv 52 rfl rfl rfl g130 (rpv 52 rfl rfl rfl g130 (rpv 52 rfl rfl rfl g130 (za4 rfl rfl (dj := 52) rfl g130 (za4 rfl rfl (dj := 52) rfl g130 ?_))))))))
       exact rpv 52 rfl rfl rfl g130 (za4 rfl rfl (dj := 52) rfl g130 (za4 rfl rfl (dj := 52) rfl g130 (rpv 52 rfl rfl rfl g130 (rpv 52 rfl rfl rfl g130 (rpv 52 rfl rfl rfl g130 (rpv 52 rfl rfl rfl g130 (zo rfl (zr rfl g130 rfl) (hJ129 _ () h _ (ji 17 69 rfl rfl rfl)))))))))
      exact zac (hJ106 _ () h _ (ji 8 0 rfl rfl rfl))
     refine zaA (j := 37) h rfl (fun g110 h => ?_) (fun g110 h => ?_)
     ·refine rvt 37 rfl rfl rfl g110 (zt rfl) (rvt 37 rfl rfl rfl g110 (zt rfl) (zI h fun q111 h => rvt 37 rfl rfl rfl g110 (zfl (l := ((((q2.take ((q2.length : Int)).toNat).drop ((1 : Int)).toNat).take ((((q2.take ((q2.length : Int)).toNat).drop ((1 : Int)).toNat).length : Int)).toNat).drop ((8 : Int)).toNat)) rfl hI sl42 (.inr ⟨_, rfl, rfl⟩) (.inl ⟨rfl, rfl⟩) q111.1 q111.2.1 q111.2.2) (zb h fun y112 hy112 h => zc2 rfl rfl rfl (dj := 37) rfl g110 (zy (zbB hy112) hT (s1 rfl) .nil (zb h fun y113 hy113 h => zc2 rfl rfl rfl (dj := 37) rfl g110 (zy (zbB hy113) hT (s1 rfl) .nil (rvt 37 rfl rfl rfl g110 (zfq rfl rfl) ?_)))))))
      exact rvt 37 rfl rfl rfl g110 (zjY rfl rfl) (rvt 37 rfl rfl rfl g110 (ziI rfl rfl) (zo rfl (zs rfl g110 rfl) (hJ109 _ () h _ (ji 9 46 rfl rfl rfl))))
     refine rpv 37 rfl rfl rfl g110 (rpv 37 rfl rfl rfl g110 (rpv 37 rfl rfl rfl g110 (za4 rfl rfl (dj := 37) rfl g110 (za4 rfl rfl (dj := 37) rfl g110 (rpv 37 rfl rfl rfl g110 (rpv 37 rfl rfl rfl g110 (rpv 37 rfl rfl rfl g110 (zo rfl (zr rfl g110 rfl) ?_))))))))
     exact hJ109 _ () h _ (ji 9 46 rfl rfl rfl)
    exact zac (hJ106 _ () h _ (ji 0 0 rfl rfl rfl))
   refine zB (j := 26) h rfl (fun g103 h => ?_) (fun g103 h => ?_)
   ·exact oK 26 rfl rfl rfl g103 (zt rfl) (zb h fun y104 hy104 h => zaD rfl rfl (dj := 26) rfl g103 (zy (zbB hy104) hT (s1 rfl) .nil (oK 26 rfl rfl rfl g103 (zjY rfl rfl) (oK 26 rfl rfl rfl g103 (ziI rfl rfl) (oV (zs rfl g103 rfl) (hJ102 _ () h _ (ji 5 31 rfl rfl rfl)))))))
   exact oP 26 rfl rfl g103 (oP 26 rfl rfl g103 (oP 26 rfl rfl g103 (oP 26 rfl rfl g103 (oV (zr rfl g103 rfl) (hJ102 _ () h _ (ji 5 31 rfl rfl rfl))))))
  refine wkf (wsr (oM rfl (oV (zpx zk5 ar190 rfl) (oV (zpl hT ty5 rfl _ zgC) (oA rfl (rnf (wsr (oM rfl ?_))))))))
  refine oV (zo7 rfl rfl) (oV (zph Tryz.underlying5 Tryz.underlying3 rfl) (oA rfl (rnf (wsr (oM rfl (zal h fun q140 h => oV (zoT rfl rfl q140) (zal h fun q141 h => ?_)))))))
  refine oV (zpw zgC ar193 rfl q141) (oV (zpk hT ty192 rfl q141 _ zk5) (oT (zaf _ ze192 fun b142 => oT (zm (y' := ((tab2 (shr8 (tab1 y99) (4 : UInt64).toNat)) : GAcc)) ty192 rfl rfl hI .here rfl (zG (zaq 6 .here rfl) (rnf (wsr (oM rfl (rnf ?_)))))))))
  refine zq (wsr (oV (zao rfl rfl) (oA rfl (rnf (zg h rfl (fun _ h => ?_) (fun _ h => ?_))))))
  ·refine zj (zj (zS (.v 0 (.v 1 (.v 2 (.v 3 (.v 4 (.v 5 (.v 6 (.v 7 (.v 8 (.v 9 (.v 10 (.v 11 (.v 12 (.v 13 (.v 14 (.v 15 (.v 16 (.v 17 (.v 18 .nil))))))))))))))))))) moOrd (by kernel_rfl) ?_))
   refine rvm rfl rfl (zo rfl (zaR (l := q2) rfl hI sl42) (zo rfl (zaj rfl rfl) (rvm rfl rfl (zc8 (jb 95) je .nil h 7 rfl (fun q143 g143 h => ?_) (fun J144 h hJ144 => ?_)))))
   ·refine rvm rfl rfl (zc8 (jb 103) je .nil h 7 rfl (fun q147 g147 h => ?_) (fun J148 h hJ148 => ?_))
    ·refine zab (zx (zg h rfl (fun _ h => ?_) (fun _ h => ?_)))
     ·refine wsr (oA rfl (rnf (zJ (zA (zH (zH (rL3 _ (zH ?_))))))))
      refine zA ?_
      cases h
      exact zk (.tmp rfl .nil) .nil ⟨rfl, rfl⟩
     refine wkf (zh (oM rfl (zI h fun q151 h => oV (zfl (l := q2) rfl hI sl42 (.inr ⟨_, rfl, rfl⟩) (.inl ⟨rfl, rfl⟩) q151.1 q151.2.1 q151.2.2) (oA rfl (zw (zi (zi ?_)))))))
     exact hL3 _ () h _ (ji 37 0 rfl rfl rfl)
    refine zaA (j := 96) h rfl (fun g149 h => ?_) (fun g149 h => ?_)
    ·exact rpv 96 rfl rfl rfl g149 (rpv 96 rfl rfl rfl g149 (rpv 96 rfl rfl rfl g149 (rpv 96 rfl rfl rfl g149 (rpv 96 rfl rfl rfl g149 (rpv 96 rfl rfl rfl g149 (zo rfl (zs rfl g149 rfl) (hJ148 _ () h _ (ji 7 103 rfl rfl rfl))))))))
    exact rvt 96 rfl rfl rfl g149 (zW rfl GAcc.f1 zkj rfl (z := (tab2 (shr8 (tab1 y99) (4 : UInt64).toNat)).hi)) (rvt 96 rfl rfl rfl g149 (zf ty5 rfl) (rvt 96 rfl rfl rfl g149 (zt rfl) (zb h fun y150 hy150 h => rvt 96 rfl rfl rfl g149 (zaz (l := q2) rfl hI rfl sl42 hy150) (rvt 96 rfl rfl rfl g149 (zf ty5 rfl) (rvt 96 rfl rfl rfl g149 (zex rfl rfl) (zo rfl (zr rfl g149 rfl) (hJ148 _ () h _ (ji 7 103 rfl rfl rfl))))))))
   refine zaA (j := 88) h rfl (fun g145 h => ?_) (fun g145 h => ?_)
   ·exact rpv 88 rfl rfl rfl g145 (rpv 88 rfl rfl rfl g145 (rpv 88 rfl rfl rfl g145 (rpv 88 rfl rfl rfl g145 (rpv 88 rfl rfl rfl g145 (rpv 88 rfl rfl rfl g145 (zo rfl (zs rfl g145 rfl) (hJ144 _ () h _ (ji 7 95 rfl rfl rfl))))))))
   exact rvt 88 rfl rfl rfl g145 (zt rfl) (zb h fun y146 hy146 h => rvt 88 rfl rfl rfl g145 (zaz (l := q2) rfl hI rfl sl42 hy146) (rvt 88 rfl rfl rfl g145 (zf ty5 rfl) (rvt 88 rfl rfl rfl g145 (zW rfl GAcc.f0 zjQ rfl (z := (tab2 (shr8 (tab1 y99) (4 : UInt64).toNat)).lo)) (rvt 88 rfl rfl rfl g145 (zf ty5 rfl) (rvt 88 rfl rfl rfl g145 (zex rfl rfl) (zo rfl (zr rfl g145 rfl) (hJ144 _ () h _ (ji 7 95 rfl rfl rfl))))))))
  refine wsr (oV (zao rfl rfl) (oA rfl (rnf (zg h rfl (fun _ h => ?_) (fun _ h => ?_)))))
  ·refine zj (zj (zS (.v 0 (.v 1 (.v 2 (.v 3 (.v 4 (.v 5 (.v 6 (.v 7 (.v 8 (.v 9 (.v 10 (.v 11 (.v 12 (.v 13 (.v 14 (.v 15 (.v 16 (.v 17 (.v 18 (.v 19 (.v 20 (.v 21 (.v 22 (.v 23 (.v 24 (.v 25 (.v 26 (.v 27 (.v 28 (.v 29 (.v 30 .nil))))))))))))))))))))))))))))))) moOrd (by kernel_rfl) ?_))
   refine rvm rfl rfl (zo rfl (zaR (l := q2) rfl hI sl42) (zo rfl (zaj rfl rfl) (rvm rfl rfl (zc8 (jb 118) je .nil h 7 rfl (fun q152 g152 h => ?_) (fun J153 h hJ153 => ?_)))))
   ·refine rvm rfl rfl (zc8 (jb 126) je .nil h 7 rfl (fun q156 g156 h => ?_) (fun J157 h hJ157 => ?_))
    ·refine rvm rfl rfl (zc8 (jb 132) je .nil h 5 rfl (fun q160 g160 h => ?_) (fun J161 h hJ161 => ?_))
     ·refine rvm rfl rfl (zc8 (jb 138) je .nil h 5 rfl (fun q164 g164 h => ?_) (fun J165 h hJ165 => ?_))
      ·refine zab (zx (zg h rfl (fun _ h => ?_) (fun _ h => ?_)))
       ·refine wsr (oA rfl (rnf (zJ (zA (zH (zH (rL3 _ (zH ?_))))))))
        refine zA ?_
        cases h
        exact zk (.tmp rfl .nil) .nil ⟨rfl, rfl⟩
       refine wkf (zh (oM rfl (zI h fun q168 h => oV (zfl (l := q2) rfl hI sl42 (.inr ⟨_, rfl, rfl⟩) (.inl ⟨rfl, rfl⟩) q168.1 q168.2.1 q168.2.2) (oA rfl (zw (zi (zi ?_)))))))
       exact hL3 _ () h _ (ji 43 0 rfl rfl rfl)
      refine zaA (j := 133) h rfl (fun g166 h => ?_) (fun g166 h => ?_)
      ·exact rpv 133 rfl rfl rfl g166 (rpv 133 rfl rfl rfl g166 (rpv 133 rfl rfl rfl g166 (rpv 133 rfl rfl rfl g166 (zo rfl (zs rfl g166 rfl) (hJ165 _ () h _ (ji 5 138 rfl rfl rfl))))))
      exact rvt 133 rfl rfl rfl g166 (zt rfl) (zb h fun y167 hy167 h => rvt 133 rfl rfl rfl g166 (zaz (l := q2) rfl hI rfl sl42 hy167) (rvt 133 rfl rfl rfl g166 (zf ty5 rfl) (rvt 133 rfl rfl rfl g166 (zex rfl rfl) (zo rfl (zr rfl g166 rfl) (hJ165 _ () h _ (ji 5 138 rfl rfl rfl))))))
     refine zaA (j := 127) h rfl (fun g162 h => ?_) (fun g162 h => ?_)
     ·exact rpv 127 rfl rfl rfl g162 (rpv 127 rfl rfl rfl g162 (rpv 127 rfl rfl rfl g162 (rpv 127 rfl rfl rfl g162 (zo rfl (zs rfl g162 rfl) (hJ161 _ () h _ (ji 5 132 rfl rfl rfl))))))
     exact rvt 127 rfl rfl rfl g162 (zt rfl) (zb h fun y163 hy163 h => rvt 127 rfl rfl rfl g162 (zaz (l := q2) rfl hI rfl sl42 hy163) (rvt 127 rfl rfl rfl g162 (zf ty5 rfl) (rvt 127 rfl rfl rfl g162 (zex rfl rfl) (zo rfl (zr rfl g162 rfl) (hJ161 _ () h _ (ji 5 132 rfl rfl rfl))))))
    refine zaA (j := 119) h rfl (fun g158 h => ?_) (fun g158 h => ?_)
    ·exact rpv 119 rfl rfl rfl g158 (rpv 119 rfl rfl rfl g158 (rpv 119 rfl rfl rfl g158 (rpv 119 rfl rfl rfl g158 (rpv 119 rfl rfl rfl g158 (rpv 119 rfl rfl rfl g158 (zo rfl (zs rfl g158 rfl) (hJ157 _ () h _ (ji 7 126 rfl rfl rfl))))))))
    exact rvt 119 rfl rfl rfl g158 (zW rfl GAcc.f1 zkj rfl (z := (tab2 (shr8 (tab1 y99) (4 : UInt64).toNat)).hi)) (rvt 119 rfl rfl rfl g158 (zf ty5 rfl) (rvt 119 rfl rfl rfl g158 (zt rfl) (zb h fun y159 hy159 h => rvt 119 rfl rfl rfl g158 (zaz (l := q2) rfl hI rfl sl42 hy159) (rvt 119 rfl rfl rfl g158 (zf ty5 rfl) (rvt 119 rfl rfl rfl g158 (zex rfl rfl) (zo rfl (zr rfl g158 rfl) (hJ157 _ () h _ (ji 7 126 rfl rfl rfl))))))))
   refine zaA (j := 111) h rfl (fun g154 h => ?_) (fun g154 h => ?_)
   ·exact rpv 111 rfl rfl rfl g154 (rpv 111 rfl rfl rfl g154 (rpv 111 rfl rfl rfl g154 (rpv 111 rfl rfl rfl g154 (rpv 111 rfl rfl rfl g154 (rpv 111 rfl rfl rfl g154 (zo rfl (zs rfl g154 rfl) (hJ153 _ () h _ (ji 7 118 rfl rfl rfl))))))))
   exact rvt 111 rfl rfl rfl g154 (zt rfl) (zb h fun y155 hy155 h => rvt 111 rfl rfl rfl g154 (zaz (l := q2) rfl hI rfl sl42 hy155) (rvt 111 rfl rfl rfl g154 (zf ty5 rfl) (rvt 111 rfl rfl rfl g154 (zW rfl GAcc.f0 zjQ rfl (z := (tab2 (shr8 (tab1 y99) (4 : UInt64).toNat)).lo)) (rvt 111 rfl rfl rfl g154 (zf ty5 rfl) (rvt 111 rfl rfl rfl g154 (zex rfl rfl) (zo rfl (zr rfl g154 rfl) (hJ153 _ () h _ (ji 7 118 rfl rfl rfl))))))))
  refine wsr (oV (zao rfl rfl) (oA rfl (rnf (zg h rfl (fun _ h => ?_) (fun _ h => ?_)))))
  ·refine zj (zj (zS (.v 0 (.v 1 (.v 2 (.v 3 (.v 4 (.v 5 (.v 6 (.v 7 (.v 8 (.v 9 (.v 10 (.v 11 (.v 12 (.v 13 (.v 14 (.v 15 (.v 16 (.v 17 (.v 18 (.v 19 (.v 20 (.v 21 (.v 22 (.v 23 (.v 24 (.v 25 (.v 26 (.v 27 (.v 28 (.v 29 (.v 30 (.v 31 (.v 32 (.v 33 (.v 34 (.v 35 (.v 36 (.v 37 (.v 38 (.v 39 (.v 40 (.v 41 (.v 42 .nil))))))))))))))))))))))))))))))))))))))))))) moOrd (by kernel_rfl) ?_))
   refine rvm rfl rfl (zo rfl (zaR (l := q2) rfl hI sl42) (zo rfl (zaj rfl rfl) (rvm rfl rfl (zc8 (jb 153) je .nil h 7 rfl (fun q169 g169 h => ?_) (fun J170 h hJ170 => ?_)))))
   ·refine rvm rfl rfl (zc8 (jb 161) je .nil h 7 rfl (fun q173 g173 h => ?_) (fun J174 h hJ174 => ?_))
    ·refine rvm rfl rfl (zc8 (jb 167) je .nil h 5 rfl (fun q177 g177 h => ?_) (fun J178 h hJ178 => ?_))
     ·refine rvm rfl rfl (zc8 (jb 173) je .nil h 5 rfl (fun q181 g181 h => ?_) (fun J182 h hJ182 => ?_))
      ·refine rvm rfl rfl (zc8 (jb 179) je .nil h 5 rfl (fun q185 g185 h => ?_) (fun J186 h hJ186 => ?_))
       ·refine rvm rfl rfl (zc8 (jb 185) je .nil h 5 rfl (fun q189 g189 h => ?_) (fun J190 h hJ190 => ?_))
        ·refine zab (zx (zg h rfl (fun _ h => ?_) (fun _ h => ?_)))
         ·refine wsr (oA rfl (rnf (zJ (zA (zH (zH (rL3 _ (zH ?_))))))))
          refine zA ?_
          cases h
          exact zk (.tmp rfl .nil) .nil ⟨rfl, rfl⟩
         refine wkf (zh (oM rfl (zI h fun q193 h => oV (zfl (l := q2) rfl hI sl42 (.inr ⟨_, rfl, rfl⟩) (.inl ⟨rfl, rfl⟩) q193.1 q193.2.1 q193.2.2) (oA rfl (zw (zi (zi ?_)))))))
         exact hL3 _ () h _ (ji 49 0 rfl rfl rfl)
        refine zaA (j := 180) h rfl (fun g191 h => ?_) (fun g191 h => ?_)
        ·exact rpv 180 rfl rfl rfl g191 (rpv 180 rfl rfl rfl g191 (rpv 180 rfl rfl rfl g191 (rpv 180 rfl rfl rfl g191 (zo rfl (zs rfl g191 rfl) (hJ190 _ () h _ (ji 5 185 rfl rfl rfl))))))
        exact rvt 180 rfl rfl rfl g191 (zt rfl) (zb h fun y192 hy192 h => rvt 180 rfl rfl rfl g191 (zaz (l := q2) rfl hI rfl sl42 hy192) (rvt 180 rfl rfl rfl g191 (zf ty5 rfl) (rvt 180 rfl rfl rfl g191 (zex rfl rfl) (zo rfl (zr rfl g191 rfl) (hJ190 _ () h _ (ji 5 185 rfl rfl rfl))))))
       refine zaA (j := 174) h rfl (fun g187 h => ?_) (fun g187 h => ?_)
       ·exact rpv 174 rfl rfl rfl g187 (rpv 174 rfl rfl rfl g187 (rpv 174 rfl rfl rfl g187 (rpv 174 rfl rfl rfl g187 (zo rfl (zs rfl g187 rfl) (hJ186 _ () h _ (ji 5 179 rfl rfl rfl))))))
       exact rvt 174 rfl rfl rfl g187 (zt rfl) (zb h fun y188 hy188 h => rvt 174 rfl rfl rfl g187 (zaz (l := q2) rfl hI rfl sl42 hy188) (rvt 174 rfl rfl rfl g187 (zf ty5 rfl) (rvt 174 rfl rfl rfl g187 (zex rfl rfl) (zo rfl (zr rfl g187 rfl) (hJ186 _ () h _ (ji 5 179 rfl rfl rfl))))))
      refine zaA (j := 168) h rfl (fun g183 h => ?_) (fun g183 h => ?_)
      ·exact rpv 168 rfl rfl rfl g183 (rpv 168 rfl rfl rfl g183 (rpv 168 rfl rfl rfl g183 (rpv 168 rfl rfl rfl g183 (zo rfl (zs rfl g183 rfl) (hJ182 _ () h _ (ji 5 173 rfl rfl rfl))))))
      exact rvt 168 rfl rfl rfl g183 (zt rfl) (zb h fun y184 hy184 h => rvt 168 rfl rfl rfl g183 (zaz (l := q2) rfl hI rfl sl42 hy184) (rvt 168 rfl rfl rfl g183 (zf ty5 rfl) (rvt 168 rfl rfl rfl g183 (zex rfl rfl) (zo rfl (zr rfl g183 rfl) (hJ182 _ () h _ (ji 5 173 rfl rfl rfl))))))
     refine zaA (j := 162) h rfl (fun g179 h => ?_) (fun g179 h => ?_)
     ·exact rpv 162 rfl rfl rfl g179 (rpv 162 rfl rfl rfl g179 (rpv 162 rfl rfl rfl g179 (rpv 162 rfl rfl rfl g179 (zo rfl (zs rfl g179 rfl) (hJ178 _ () h _ (ji 5 167 rfl rfl rfl))))))
     exact rvt 162 rfl rfl rfl g179 (zt rfl) (zb h fun y180 hy180 h => rvt 162 rfl rfl rfl g179 (zaz (l := q2) rfl hI rfl sl42 hy180) (rvt 162 rfl rfl rfl g179 (zf ty5 rfl) (rvt 162 rfl rfl rfl g179 (zex rfl rfl) (zo rfl (zr rfl g179 rfl) (hJ178 _ () h _ (ji 5 167 rfl rfl rfl))))))
    refine zaA (j := 154) h rfl (fun g175 h => ?_) (fun g175 h => ?_)
    ·exact rpv 154 rfl rfl rfl g175 (rpv 154 rfl rfl rfl g175 (rpv 154 rfl rfl rfl g175 (rpv 154 rfl rfl rfl g175 (rpv 154 rfl rfl rfl g175 (rpv 154 rfl rfl rfl g175 (zo rfl (zs rfl g175 rfl) (hJ174 _ () h _ (ji 7 161 rfl rfl rfl))))))))
    exact rvt 154 rfl rfl rfl g175 (zW rfl GAcc.f1 zkj rfl (z := (tab2 (shr8 (tab1 y99) (4 : UInt64).toNat)).hi)) (rvt 154 rfl rfl rfl g175 (zf ty5 rfl) (rvt 154 rfl rfl rfl g175 (zt rfl) (zb h fun y176 hy176 h => rvt 154 rfl rfl rfl g175 (zaz (l := q2) rfl hI rfl sl42 hy176) (rvt 154 rfl rfl rfl g175 (zf ty5 rfl) (rvt 154 rfl rfl rfl g175 (zex rfl rfl) (zo rfl (zr rfl g175 rfl) (hJ174 _ () h _ (ji 7 161 rfl rfl rfl))))))))
   refine zaA (j := 146) h rfl (fun g171 h => ?_) (fun g171 h => ?_)
   ·exact rpv 146 rfl rfl rfl g171 (rpv 146 rfl rfl rfl g171 (rpv 146 rfl rfl rfl g171 (rpv 146 rfl rfl rfl g171 (rpv 146 rfl rfl rfl g171 (rpv 146 rfl rfl rfl g171 (zo rfl (zs rfl g171 rfl) (hJ170 _ () h _ (ji 7 153 rfl rfl rfl))))))))
   exact rvt 146 rfl rfl rfl g171 (zt rfl) (zb h fun y172 hy172 h => rvt 146 rfl rfl rfl g171 (zaz (l := q2) rfl hI rfl sl42 hy172) (rvt 146 rfl rfl rfl g171 (zf ty5 rfl) (rvt 146 rfl rfl rfl g171 (zW rfl GAcc.f0 zjQ rfl (z := (tab2 (shr8 (tab1 y99) (4 : UInt64).toNat)).lo)) (rvt 146 rfl rfl rfl g171 (zf ty5 rfl) (rvt 146 rfl rfl rfl g171 (zex rfl rfl) (zo rfl (zr rfl g171 rfl) (hJ170 _ () h _ (ji 7 153 rfl rfl rfl))))))))
  refine wsr (oA rfl (rnf (zJ (zH (zH (rL3 _ (zH (zA ?_))))))))
  cases h
  exact zk (.tmp rfl .nil) .nil ⟨rfl, rfl⟩
 refine zad (zU (eL3 _ _ (zE (zx (wsr (oA rfl (rnf (zJ ?_))))))))
 cases h
 exact zk (.tmp rfl .nil) .nil ⟨rfl, rfl⟩


theorem zgI : ∀ {a_x : GMk} {a_i : Int} {a_v : Val} {zK : Nat} {zah : Vt} {r : Val × GMk}, zb9 a_x a_i a_v = some r → Ctr Tryz.prog 175 [ptrv zK (Fld.id (GMod × Vh × Int)), isv (a_i), isv (a_v)] [boxE zK ((a_x.m, (Vh.mk zah a_x.l.length), a_x.e) : (GMod × Vh × Int)), vecE zah (a_x.l : List GTyp)] (fun R H => R = oneOf [isv (r.1)] ∧ H = [boxE zK ((r.2.m, (Vh.mk zah r.2.l.length), r.2.e)), vecE zah (r.2.l)]) := by
 intro a_x a_i a_v zK zah r h
 unfold zb9 at h
 refine zp Tryz.func175 rfl fun w0 S0 hT => wsr (oT (zkf (y := a_v) rfl hI fun b2 => oT (zaf _ ze46 fun b3 => rnf (wsr (oM rfl (oV (zu rfl) (oV (zag rfl zbE zcD) ?_)))))))
 refine oT (zM (R := vecv zah (a_x.l.length)) ty24 rfl tI isvV1 (oM rfl (zI h fun q4 h => oV (zam (α := GTyp) sl24 rfl rfl q4.1 q4.2) (zb h fun y5 hy5 h => oT (zat ty87 rfl (.there tI) hy5 ?_)))))
 refine oT (zaf _ ze87 fun b6 => oT (zm (y' := (y5 : GTyp)) ty87 rfl rfl hI .here rfl (zG (zaq 7 .here rfl) (rnf (wsr (oV (zag rfl Val.f0 zgl) (oT (zM (R := isv (a_v.kind)) ty3 rfl tH hI (oV (zW rfl GTyp.f0 zcx rfl (z := y5.kind)) (oV (zf ty3 rfl) ?_))))))))))
 refine oV (zao rfl rfl) (oA rfl (rnf (zj (wsr (oV (zW rfl GTyp.f0 zcx rfl (z := y5.kind)) (oV (zf ty3 rfl) (rnf (zdB (ι := Bool × Val) (γ := Unit) (fun q7 g7 => [(5, ptrv b2 (Fld.id Val)), (8, isv (q7.1))]) (fun q7 g7 => [boxE b2 (q7.2 : Val)]) (.cons tH .nil) h (fun q7 g7 h => ?_) (fun J8 h hJ8 => ?_)))))))))
 ·refine zj (wsr (oM rfl (oV (zbq rfl) (rnf (zdB (ι := GMk) (γ := Unit) (fun q51 g51 => []) (fun q51 g51 => [boxE zK ((q51.m, (Vh.mk zah q51.l.length), q51.e) : (GMod × Vh × Int)), vecE zah (q51.l : List GTyp)]) (.cons tI (.cons tI .nil)) h (fun q51 g51 h => ?_) (fun J52 h hJ52 => ?_))))))
  ·refine wsr (oT (zM (R := isv (q7.2)) ty46 rfl tI hI (oT (zm (y' := (q7.2 : Val)) ty46 rfl rfl hI (.there tI) rfl (rnf (zJ ?_))))))
   cases h
   exact zk (.cell rfl .here ty46 .nil) (.cons tH (.cons tH .nil)) ⟨rfl, rfl⟩
  refine zg h rfl (fun _ h => ?_) (fun _ h => ?_)
  ·exact zh (oM rfl (zb h fun y53 hy53 h => oT (zy (zbh hy53) hT (s2 rfl rfl) (.cons tI (.cons tI .nil)) (zw (hJ52 _ () h _ (ze 2 rfl rfl zd k4))))))
  exact zac (hJ52 _ () h _ (ze 0 rfl rfl zd (.cons tI (.cons tI k2))))
 refine zq (zj (wsr (oV (zao rfl rfl) (oA rfl (rnf (zdB (jb 24) je .nil h (fun q9 g9 h => ?_) (fun J10 h hJ10 => ?_)))))))
 ·refine zg h rfl (fun _ h => ?_) (fun _ h => ?_)
  ·exact zac (zi (hJ8 _ () h _ (ze 3 rfl rfl (za (j := 5) rfl hI (za (j := 8) rfl hI zd)) (.cons tH k3))))
  refine wsr (oV (zao rfl rfl) (oA rfl (rnf (zg h rfl (fun _ h => ?_) (fun _ h => ?_)))))
  ·refine zh (oM rfl (oM rfl (zau (jb 36) je .nil h 6 rfl (fun q11 g11 h => ?_) (fun J12 h hJ12 => ?_))))
   ·exact oA rfl (zw (zi (hJ8 _ () h _ (ze 9 rfl rfl (za (j := 5) rfl hI (za (j := 8) rfl hI zd)) (.cons tH k3)))))
   refine zB (j := 30) h rfl (fun g13 h => ?_) (fun g13 h => ?_)
   ·exact oK 30 rfl rfl rfl g13 (zW rfl GTyp.f2 zlX rfl (z := y5.con)) (oK 30 rfl rfl rfl g13 (zf ty83 rfl) (oK 30 rfl rfl rfl g13 (zag rfl Val.f1 zjS) (zaD rfl rfl (dj := 30) rfl g13 (zM (R := isv (a_v.n)) ty2 rfl tH hI (zb h fun y14 hy14 h => zaD rfl rfl (dj := 30) rfl g13 (zy (zh0 hy14) hT (s2 rfl rfl) .nil (oV (zs rfl g13 rfl) (hJ12 _ () h _ (ze 6 rfl rfl (za (j := 36) rfl hI zd) k4)))))))))
   exact oP 30 rfl rfl g13 (oP 30 rfl rfl g13 (oP 30 rfl rfl g13 (oP 30 rfl rfl g13 (oP 30 rfl rfl g13 (oV (zr rfl g13 rfl) (hJ12 _ () h _ (ze 6 rfl rfl (za (j := 36) rfl hI zd) k4)))))))
  refine zj (wsr (oV (zao rfl rfl) (oA rfl (rnf (zdB (jb 37) je .nil h (fun q15 g15 h => ?_) (fun J16 h hJ16 => ?_))))))
  ·refine zg h rfl (fun _ h => ?_) (fun _ h => ?_)
   ·refine zh (oM rfl (oM rfl (zau (jb 48) je .nil h 7 rfl (fun q17 g17 h => ?_) (fun J18 h hJ18 => ?_))))
    ·refine oM rfl (zau (jb 58) je .nil h 9 rfl (fun q21 g21 h => ?_) (fun J22 h hJ22 => ?_))
     ·exact oA rfl (zw (zi (hJ8 _ () h _ (ze 14 rfl rfl (za (j := 5) rfl hI (za (j := 8) rfl hI zd)) (.cons tH k3)))))
     refine zB (j := 49) h rfl (fun g23 h => ?_) (fun g23 h => ?_)
     ·refine oK 49 rfl rfl rfl g23 (zW rfl GTyp.f0 zcx rfl (z := y5.kind)) (oK 49 rfl rfl rfl g23 (zf ty3 rfl) (oK 49 rfl rfl rfl g23 (zao rfl rfl) (oK 49 rfl rfl rfl g23 (zt rfl) (zau (jb 57) je .nil h 4 rfl (fun q24 g24 h => ?_) (fun J25 h hJ25 => ?_)))))
      ·exact oV (zs rfl g23 rfl) (hJ22 _ () h _ (ze 6 rfl rfl (za (j := 58) rfl hI zd) k4))
      refine zB (j := 53) h rfl (fun g26 h => ?_) (fun g26 h => ?_)
      ·exact oP 53 rfl rfl g26 (oP 53 rfl rfl g26 (oP 53 rfl rfl g26 (oK 49 rfl rfl rfl g23 (zs rfl g26 rfl) (hJ25 _ () h _ (ze 4 rfl rfl (za (j := 57) rfl hI zd) k4)))))
      exact oK 53 rfl rfl rfl g26 (zag rfl Val.f2 zia) (zaD rfl rfl (dj := 53) rfl g26 (zM (R := isv (a_v.b)) ty42 rfl tH hI (zb h fun y27 hy27 h => zaD rfl rfl (dj := 53) rfl g26 (zy (zjW hy27) hT (s1 rfl) .nil (oK 49 rfl rfl rfl g23 (zr rfl g26 rfl) (hJ25 _ () h _ (ze 4 rfl rfl (za (j := 57) rfl hI zd) k4)))))))
     refine oP 49 rfl rfl g23 (oP 49 rfl rfl g23 (oP 49 rfl rfl g23 (oP 49 rfl rfl g23 (zC rfl (dj := 53) rfl (zC rfl (dj := 53) rfl (zC rfl (dj := 53) rfl (oP 49 rfl rfl g23 (oV (zr rfl g23 rfl) ?_))))))))
     exact hJ22 _ () h _ (ze 9 rfl rfl (za (j := 58) rfl hI zd) k4)
    refine zB (j := 41) h rfl (fun g19 h => ?_) (fun g19 h => ?_)
    ·exact oK 41 rfl rfl rfl g19 (zW rfl GTyp.f2 zlX rfl (z := y5.con)) (oK 41 rfl rfl rfl g19 (zf ty83 rfl) (oK 41 rfl rfl rfl g19 (zag rfl Val.f2 zia) (zaD rfl rfl (dj := 41) rfl g19 (zM (R := isv (a_v.b)) ty42 rfl tH hI (oK 41 rfl rfl rfl g19 (zaR (l := a_v.b) rfl hI sl42) (zb h fun y20 hy20 h => zaD rfl rfl (dj := 41) rfl g19 (zy (zh0 hy20) hT (s2 rfl rfl) .nil (oV (zs rfl g19 rfl) (hJ18 _ () h _ (ze 7 rfl rfl (za (j := 48) rfl hI zd) k4))))))))))
    exact oP 41 rfl rfl g19 (oP 41 rfl rfl g19 (oP 41 rfl rfl g19 (oP 41 rfl rfl g19 (oP 41 rfl rfl g19 (oP 41 rfl rfl g19 (oV (zr rfl g19 rfl) (hJ18 _ () h _ (ze 7 rfl rfl (za (j := 48) rfl hI zd) k4))))))))
   refine wsr (oV (zao rfl rfl) (oA rfl (rnf (zg h rfl (fun _ h => ?_) (fun _ h => ?_)))))
   ·refine wsr (oM rfl (rnf (zg h rfl (fun _ h => ?_) (fun _ h => ?_))))
    ·refine wsr (oA rfl (rnf (wsr (oA rfl (rnf (zq (zaN (ι := Bool × Int × Val) (γ := Unit) (fun q28 g28 => [(5, ptrv b2 (Fld.id Val)), (8, isv (q28.1)), (9, isv (q28.2.1))]) (fun q28 g28 => [boxE b2 (q28.2.2 : Val)]) h () (za (j := 5) rfl hI (za (j := 8) rfl hI (za (j := 9) rfl hI zd))) (.cons tH .nil) (fun L29 q28 g28 Q50 h hL29 eL29 rL29 => zj ?_))))))))
     refine wsr (oM rfl (oV (zW rfl GTyp.f5 zfr rfl (z := y5.root)) (oV (zf ty3 rfl) (oV (zaj rfl rfl) (oM rfl (zau (jb 69) je .nil h 3 rfl (fun q40 g40 h => ?_) (fun J41 h hJ41 => ?_)))))))
     ·refine rnf (zg h rfl (fun _ h => ?_) (fun _ h => ?_))
      ·refine wkf (zj (zdB (ι := Bool × Val) (γ := Unit) (fun q43 g43 => [(5, ptrv b2 (Fld.id Val)), (8, isv (q43.1))]) (fun q43 g43 => [boxE b2 (q43.2 : Val)]) k1 h (fun q43 g43 h => ?_) (fun J44 h hJ44 => ?_)))
       ·exact zh (oM rfl (zz h fun q49 h => oV (zaa rfl rfl q49) (oA rfl (zw (hL29 _ () h _ (ze 14 rfl rfl (za (j := 5) rfl hI (za (j := 8) rfl hI (za (j := 9) rfl hI zd))) k4))))))
       refine zq (zj (zc7 5 .here rfl (fun o45 hn46 => zS (.v 0 (.v 1 (.v 2 (.v 3 (.v 4 (.v 5 (.v 6 (.v 7 (.v 8 (.v 9 .nil)))))))))) moOrd (by kernel_rfl) ?_)))
       refine zo rfl (zW rfl GTyp.f3 zft rfl (z := y5.items)) (zo rfl (zf ty84 rfl) (rvm rfl rfl (zb h fun y47 hy47 h => zo rfl (zaz (l := y5.items) rfl hI rfl sl84 hy47) (zo rfl (zW rfl GItem.f0 zkm rfl (z := y47.name)) (zo rfl (zf ty9 rfl) (zo rfl (zga rfl Val.f2 zia) (zo rfl (zdk (R := isv (q28.2.2.b)) ty42 rfl (List.Mem.head _) hI) ?_)))))))
       refine zo rfl (zpz (l := q28.2.2.b) Tryz.underlying42 Tryz.underlying5 Tryz.underlying9 rfl hI) (zo rfl (zcz eq9 rfl rfl) (zab (zaO 5 hn46 rfl (zx (zg h rfl (fun _ h => ?_) (fun _ h => ?_))))))
       ·refine zh (oV (zW rfl GTyp.f3 zft rfl (z := y5.items)) (oV (zf ty84 rfl) (oM rfl (zb h fun y48 hy48 h => oV (zaz (l := y5.items) rfl hI rfl sl84 hy48) (oV (zW rfl GItem.f1 zc6 rfl (z := y48.number)) (oV (zf ty2 rfl) (oV (zaC (z := (Val.mk (3 : Int) y48.number ([] : (List UInt8)) ([] : (List Val)) (0 : Int) ([] : (List Raw)))) rfl bu46 ze46 (.cons Val.f0 zgl rfl hI (.cons Val.f1 zjS rfl hI .nil))) ?_)))))))
        exact oT (zm (y' := ((Val.mk (3 : Int) y48.number ([] : (List UInt8)) ([] : (List Val)) (0 : Int) ([] : (List Raw))) : Val)) ty46 rfl rfl hI .here rfl (oA rfl (zw (zi (hJ44 _ () h _ (ze 20 rfl rfl (za (j := 5) rfl hI (za (j := 8) rfl hI zd)) k4))))))
       exact zac (zi (hJ44 _ () h _ (ze 12 rfl rfl (za (j := 5) rfl hI (za (j := 8) rfl hI zd)) k4)))
      exact zad (zU (eL29 _ _ (zE (zi (hJ8 _ () h _ (ze 22 rfl rfl (za (j := 5) rfl hI (za (j := 8) rfl hI zd)) k4))))))
     refine zB (j := 66) h rfl (fun g42 h => ?_) (fun g42 h => ?_)
     ·exact oK 66 rfl rfl rfl g42 (zt rfl) (oK 66 rfl rfl rfl g42 (zbq rfl) (oV (zs rfl g42 rfl) (hJ41 _ () h _ (ze 3 rfl rfl (za (j := 69) rfl hI zd) k4))))
     exact oP 66 rfl rfl g42 (oP 66 rfl rfl g42 (oV (zr rfl g42 rfl) (hJ41 _ () h _ (ze 3 rfl rfl (za (j := 69) rfl hI zd) k4))))
    exact zac (zi (hJ8 _ () h _ (ze 11 rfl rfl (za (j := 5) rfl hI (za (j := 8) rfl hI zd)) (.cons tH k3))))
   exact zh (oA rfl (zw (zi (hJ8 _ () h _ (ze 11 rfl rfl (za (j := 5) rfl hI (za (j := 8) rfl hI zd)) (.cons tH k3))))))
  refine zg h rfl (fun _ h => ?_) (fun _ h => ?_)
  ·exact zac (hJ16 _ () h _ (ze 0 rfl rfl (za (j := 37) rfl hI zd) k4))
  exact zh (oV (zao rfl rfl) (oA rfl (zw (hJ16 _ () h _ (ze 2 rfl rfl (za (j := 37) rfl hI zd) k4)))))
 refine zg h rfl (fun _ h => ?_) (fun _ h => ?_)
 ·exact zac (hJ10 _ () h _ (ze 0 rfl rfl (za (j := 24) rfl hI zd) k4))
 exact zh (oV (zao rfl rfl) (oA rfl (zw (hJ10 _ () h _ (ze 2 rfl rfl (za (j := 24) rfl hI zd) k4)))))


theorem zf1 : ∀ {a_x : GMk} {a_i : Int} {zK : Nat} {zah : Vt} {r : Int × GMk}, zcG a_x a_i = some r → Ctr Tryz.prog 114 [ptrv zK (Fld.id (GMod × Vh × Int)), isv (a_i)] [boxE zK ((a_x.m, (Vh.mk zah a_x.l.length), a_x.e) : (GMod × Vh × Int)), vecE zah (a_x.l : List GTyp)] (fun R H => R = oneOf [isv (r.1)] ∧ H = [boxE zK ((r.2.m, (Vh.mk zah r.2.l.length), r.2.e)), vecE zah (r.2.l)]) := by
 intro a_x a_i zK zah r h
 unfold zcG at h
 refine zp Tryz.func114 rfl fun w0 S0 hT => wsr (oA rfl (rnf (zj (wsr (oM rfl (oV (zu rfl) (oV (zag rfl zbE zcD) ?_)))))))
 refine oT (zM (R := vecv zah (a_x.l.length)) ty24 rfl .here isvV1 (oM rfl (zI h fun q2 h => oV (zam (α := GTyp) sl24 rfl rfl q2.1 q2.2) (oV (zhi rfl GTyp.f1 zeQ) (zb h fun y3 hy3 h => oT (zat ty78 rfl tH hy3 ?_))))))
 refine oV (zaR (l := y3.tags) rfl hI sl78) (oV (zbu rfl rfl) (rnf (zg h rfl (fun _ h => ?_) (fun _ h => ?_))))
 ·refine wsr (oA rfl (rnf (zJ (zA ?_))))
  cases h
  exact zk (.tmp rfl .nil) k2 ⟨rfl, rfl⟩
 refine wkf (wsr (oA rfl (rnf (zJ ?_))))
 cases h
 exact zk (.tmp rfl .nil) k2 ⟨rfl, rfl⟩


theorem zlW : ∀ {zcW : (List Tag)} {zbw : Int} {zeP : Int} {r : (List Tag) × Int}, zgH zcW zbw zeP = some r → Ctr Tryz.prog 155 [isv (zcW), isv (zbw), isv (zeP)] [] (fun R H => R = oneOf [isv (r.1), isv (r.2)] ∧ H = []) := by
 intro zcW zbw zeP r h
 unfold zgH at h
 refine zp Tryz.func155 rfl fun w0 S0 hT => wsr (oA rfl (oA rfl (rnf (zj (wsr (oM rfl (oV (zaj rfl rfl) ?_)))))))
 refine oM rfl (zau (jb 14) je .nil h 3 rfl (fun q1 g1 h => ?_) (fun J2 h hJ2 => ?_))
 ·refine oM rfl (zau (jb 23) je .nil h 8 rfl (fun q4 g4 h => ?_) (fun J5 h hJ5 => ?_))
  ·refine rnf (zg h rfl (fun _ h => ?_) (fun _ h => ?_))
   ·refine wsr (oA rfl (oA rfl (rnf (zJ (zA ?_)))))
    cases h
    exact zk (.as rfl (zcv (α := Tag)) (.tmp rfl .nil)) .nil ⟨rfl, rfl⟩
   refine wkf (wsr (oM rfl (oV (zaC (z := (Tag.mk (2 : Int) zbw)) rfl bu31 ze31 (.cons Tag.f0 zgw rfl hI (.cons Tag.f1 zer rfl hI .nil))) (oT (zY (l := ([(Tag.mk (2 : Int) zbw)] : (List Tag))) el78 (.cons rfl hI .nil) rfl rfl (oA rfl (rnf (zj (wsr ?_)))))))))
   refine oM rfl (oV (zao rfl rfl) (rnf (zg h rfl (fun _ h => ?_) (fun _ h => ?_))))
   ·refine wsr (oM rfl (oM rfl (zI h fun q11 h => oV (zfl (l := zcW) rfl hI sl78 (.inr ⟨_, rfl, rfl⟩) (.inl ⟨rfl, rfl⟩) q11.1 q11.2.1 q11.2.2) (zG (zaI) (zal h fun q13 h => oT (zaZ (l := ([(Tag.mk (2 : Int) zbw)] : (List Tag))) (m := ((zcW.take ((zcW.length : Int)).toNat).drop ((1 : Int)).toNat)) zfw rfl hI rfl hI .here q13 fun t12 => oA rfl ?_))))))
    refine oA rfl (rnf (zJ (zA ?_)))
    cases h
    exact zk (.as rfl zF (.tmp rfl .nil)) .nil ⟨rfl, rfl⟩
   refine wkf (wsr (oM rfl (oM rfl (zG (zaI) (zal h fun q15 h => oT (zaZ (l := ([(Tag.mk (2 : Int) zbw)] : (List Tag))) (m := zcW) zfw rfl hI rfl hI .here q15 fun t14 => oA rfl (oA rfl ?_)))))))
   refine rnf (zJ ?_)
   cases h
   exact zk (.as rfl zF (.tmp rfl .nil)) .nil ⟨rfl, rfl⟩
  refine zB (j := 15) h rfl (fun g6 h => ?_) (fun g6 h => ?_)
  ·exact oP 15 rfl rfl g6 (oP 15 rfl rfl g6 (oP 15 rfl rfl g6 (zC rfl (dj := 18) rfl (zC rfl (dj := 18) rfl (zC rfl (dj := 18) rfl (oP 15 rfl rfl g6 (oV (zs rfl g6 rfl) (hJ5 _ () h _ (ji 8 23 rfl rfl rfl)))))))))
  refine oK 15 rfl rfl rfl g6 (zt rfl) (oK 15 rfl rfl rfl g6 (zao rfl rfl) (oK 15 rfl rfl rfl g6 (zt rfl) (zau (jb 22) je .nil h 4 rfl (fun q7 g7 h => ?_) (fun J8 h hJ8 => ?_))))
  ·exact oV (zr rfl g6 rfl) (hJ5 _ () h _ (ji 5 23 rfl rfl rfl))
  refine zB (j := 18) h rfl (fun g9 h => ?_) (fun g9 h => ?_)
  ·exact oK 18 rfl rfl rfl g9 (zt rfl) (oK 18 rfl rfl rfl g9 (zaR (l := zcW) rfl hI sl78) (oK 18 rfl rfl rfl g9 (zao rfl rfl) (oK 15 rfl rfl rfl g6 (zs rfl g9 rfl) (hJ8 _ () h _ (ji 4 22 rfl rfl rfl)))))
  exact oP 18 rfl rfl g9 (oP 18 rfl rfl g9 (oP 18 rfl rfl g9 (oK 15 rfl rfl rfl g6 (zr rfl g9 rfl) (hJ8 _ () h _ (ji 4 22 rfl rfl rfl)))))
 refine zB (j := 11) h rfl (fun g3 h => ?_) (fun g3 h => ?_)
 ·exact oP 11 rfl rfl g3 (oP 11 rfl rfl g3 (oV (zs rfl g3 rfl) (hJ2 _ () h _ (ji 3 14 rfl rfl rfl))))
 exact oK 11 rfl rfl rfl g3 (zt rfl) (oK 11 rfl rfl rfl g3 (zbu rfl rfl) (oV (zr rfl g3 rfl) (hJ2 _ () h _ (ji 3 14 rfl rfl rfl))))


theorem zf3 : ∀ {a_x : GMk} {a_i : Int} {zbw : Int} {zeP : Int} {zK : Nat} {zah : Vt} {r : GMk}, zcM a_x a_i zbw zeP = some r → Ctr Tryz.prog 115 [ptrv zK (Fld.id (GMod × Vh × Int)), isv (a_i), isv (zbw), isv (zeP)] [boxE zK ((a_x.m, (Vh.mk zah a_x.l.length), a_x.e) : (GMod × Vh × Int)), vecE zah (a_x.l : List GTyp)] (fun R H => R = oneOf [] ∧ H = [boxE zK ((r.m, (Vh.mk zah r.l.length), r.e)), vecE zah (r.l)]) := by
 intro a_x a_i zbw zeP zK zah r h
 unfold zcM at h
 refine zp Tryz.func115 rfl fun w0 S0 hT => zj (wsr (oM rfl (oV (zu rfl) (oV (zag rfl zcj zdI) (oT (zM (R := isv (a_x.e)) ty65 rfl .here hI (oV (zbo rfl rfl) (rnf ?_))))))))
 refine zg h rfl (fun _ h => ?_) (fun _ h => ?_)
 ·refine zJ (zA ?_)
  cases h
  exact zk .nil k2 ⟨rfl, rfl⟩
 refine wkf (wsr (oM rfl (oV (zu rfl) (oV (zag rfl zbE zcD) (oT (zM (R := vecv zah (a_x.l.length)) ty24 rfl .here isvV1 (oM rfl (zI h fun q2 h => oV (zam (α := GTyp) sl24 rfl rfl q2.1 q2.2) ?_))))))))
 refine oV (zhi rfl GTyp.f1 zeQ) (zb h fun y3 hy3 h => oT (zat ty78 rfl tH hy3 ?_))
 refine oM rfl (oM rfl (zb h fun y4 hy4 h => oT (zy (zlW hy4) hT (s3 rfl rfl rfl) .nil (oM rfl (oV (zaB rfl rfl) (oV (zaB rfl rfl) (oA rfl (oA rfl ?_))))))))
 refine rnf (zj (wsr (oM rfl (oV (zbo rfl rfl) (rnf (zg h rfl (fun _ h => ?_) (fun _ h => ?_)))))))
 ·refine wsr (oM rfl (oM rfl (zb h fun y5 hy5 h => oT (zy (zbh hy5) hT (s2 rfl rfl) k2 (rnf (zJ (zA ?_)))))))
  cases h
  exact zk .nil k2 ⟨rfl, rfl⟩
 refine wkf (zh (oM rfl (oV (zu rfl) (oV (zag rfl zbE zcD) (oT (zM (R := vecv zah (a_x.l.length)) ty24 rfl .here isvV1 (oM rfl (oM rfl (zI h fun q6 h => ?_)))))))))
 refine oV (zam (α := GTyp) sl24 rfl rfl q6.1 q6.2) (oV (zhi rfl GTyp.f1 zeQ) (zb h fun y7 hy7 h => oT (zas ty78 rfl rfl tH hy7 (zG (zhb (y := ((a_x.m, (Vh.mk zah (a_x.l.set a_i.toNat ({ y7 with tags := y4.1 })).length), a_x.e) : (GMod × Vh × Int))) tH (fun S => (Cv.pair Cv.id (Cv.pair (Cv.vhe (by first | rfl | simp)) Cv.id)))) ?_))))
 refine zw (zan .nil k2 ?_)
 cases h
 exact ⟨rfl, rfl⟩


def zhC (f' : (List GTyp) → Int → Option (Bool)) : Prop :=
 ∀ {a_l : (List GTyp)} {a_i : Int} {zc1 : Vt} {r : Bool}, f' a_l a_i = some r → Ctr Tryz.prog 193 [vecv zc1 (a_l.length), isv (a_i)] [vecE zc1 (a_l : List GTyp)] (fun R H => R = oneOf [isv (r)] ∧ H = [vecE zc1 (a_l : List GTyp)])
theorem zkD {zg3 : (List GTyp) → Int → Option (Bool)} (zlT : zhC zg3) : ∀ {a_l : (List GTyp)} {a_i : Int} {zc1 : Vt} {r : Bool}, zfj zg3 a_l a_i = some r → Ctr Tryz.prog 193 [vecv zc1 (a_l.length), isv (a_i)] [vecE zc1 (a_l : List GTyp)] (fun R H => R = oneOf [isv (r)] ∧ H = [vecE zc1 (a_l : List GTyp)]) := by
 intro a_l a_i zc1 r h
 unfold zfj at h
 refine zp Tryz.func193 rfl fun w0 S0 hT => wsr (oA rfl (rnf (zj (wsr (oM rfl (oM rfl (zI h fun q1 h => ?_)))))))
 refine oV (zam (α := GTyp) sl24 rfl rfl q1.1 q1.2) (oV (zhi rfl GTyp.f0 zcx) (zb h fun y2 hy2 h => oT (zat ty3 rfl .here hy2 ?_)))
 refine oV (zbo rfl rfl) (oM rfl (zau (jb 21) je .nil h 8 rfl (fun q3 g3 h => ?_) (fun J4 h hJ4 => ?_)))
 ·refine rnf (zg h rfl (fun _ h => ?_) (fun _ h => ?_))
  ·refine wsr (oA rfl (rnf (zJ (zA ?_))))
   cases h
   exact zk (.tmp rfl .nil) k1 ⟨rfl, rfl⟩
  refine wkf (wsr (oM rfl (oM rfl (zI h fun q8 h => oV (zam (α := GTyp) sl24 rfl rfl q8.1 q8.2) (oV (zhi rfl GTyp.f6 zkx) (zb h fun y9 hy9 h => oT (zat ty4 rfl .here hy9 ?_)))))))
  refine oA rfl (rnf (zj (wsr (oA rfl (rnf (zq (zaN (ι := Bool × Int) (γ := Unit) (fun q10 g10 => [(5, isv (q10.1)), (6, isv (q10.2))]) (fun q10 g10 => []) h () (za (j := 5) rfl hI (za (j := 6) rfl hI zd)) .nil (fun L11 q10 g10 Q32 h hL11 eL11 rL11 => zj ?_))))))))
  refine wsr (oM rfl (oM rfl (oM rfl (zI h fun q22 h => oV (zam (α := GTyp) sl24 rfl rfl q22.1 q22.2) (oV (zhi rfl GTyp.f4 zbA) (zb h fun y23 hy23 h => oT (zat ty85 rfl .here hy23 ?_)))))))
  refine oV (zaR (l := y23.fields) rfl hI sl85) (oV (zaj rfl rfl) (rnf (zg h rfl (fun _ h => ?_) (fun _ h => ?_))))
  ·refine wkf (zj (zq (zh (oM rfl (oM rfl (zau (jb 50) je .nil h 12 rfl (fun q24 g24 h => ?_) (fun J25 h hJ25 => ?_)))))))
   ·refine oA rfl (zw (zi (zx (zh (oM rfl (zz h fun q31 h => oV (zaa rfl rfl q31) (oA rfl ?_)))))))
    exact zw (hL11 _ () h _ (ze 17 rfl rfl (za (j := 5) rfl hI (za (j := 6) rfl hI zd)) k1))
   refine zB (j := 38) h rfl (fun g26 h => ?_) (fun g26 h => ?_)
   ·refine oP 38 rfl rfl g26 (oP 38 rfl rfl g26 (oP 38 rfl rfl g26 (oP 38 rfl rfl g26 (oP 38 rfl rfl g26 (oP 38 rfl rfl g26 (oP 38 rfl rfl g26 (oP 38 rfl rfl g26 (oP 38 rfl rfl g26 ?_))))))))
    exact oP 38 rfl rfl g26 (oP 38 rfl rfl g26 (oV (zs rfl g26 rfl) (hJ25 _ () h _ (jk 12 50 rfl rfl rfl))))
   refine oK 38 rfl rfl rfl g26 (zt rfl) (oK 38 rfl rfl rfl g26 (zt rfl) (oK 38 rfl rfl rfl g26 (zt rfl) (zI h fun q27 h => oK 38 rfl rfl rfl g26 (zam (α := GTyp) sl24 rfl rfl q27.1 q27.2) (oK 38 rfl rfl rfl g26 (zhi rfl GTyp.f4 zbA) (zb h fun y28 hy28 h => zaD rfl rfl (dj := 38) rfl g26 (zat ty85 rfl .here hy28 ?_))))))
   refine oK 38 rfl rfl rfl g26 (zt rfl) (zb h fun y29 hy29 h => oK 38 rfl rfl rfl g26 (zaz (l := y28.fields) rfl hI rfl sl85 hy29) (oK 38 rfl rfl rfl g26 (zW rfl GFld.f1 zc9 rfl (z := y29.ty)) (oK 38 rfl rfl rfl g26 (zf ty3 rfl) (zb h fun y30 hy30 h => zaD rfl rfl (dj := 38) rfl g26 (zy (zlT hy30) hT (.cons rfl (fun _ _ h => vecvE (by first | rfl | simp) _ _ h) (s1 rfl)) k1 ?_)))))
   exact oV (zr rfl g26 rfl) (hJ25 _ () h _ (jk 12 50 rfl rfl rfl))
  refine zad (zU (eL11 _ _ (zE (zx (wsr (oM rfl (oA rfl (rnf ?_))))))))
  refine zJ ?_
  cases h
  exact zk (.tmp rfl .nil) k1 ⟨rfl, rfl⟩
 refine zB (j := 13) h rfl (fun g5 h => ?_) (fun g5 h => ?_)
 ·exact oP 13 rfl rfl g5 (oP 13 rfl rfl g5 (oP 13 rfl rfl g5 (oP 13 rfl rfl g5 (oP 13 rfl rfl g5 (oP 13 rfl rfl g5 (oP 13 rfl rfl g5 (oV (zs rfl g5 rfl) (hJ4 _ () h _ (jk 8 21 rfl rfl rfl)))))))))
 refine oK 13 rfl rfl rfl g5 (zt rfl) (oK 13 rfl rfl rfl g5 (zt rfl) (zI h fun q6 h => oK 13 rfl rfl rfl g5 (zam (α := GTyp) sl24 rfl rfl q6.1 q6.2) (oK 13 rfl rfl rfl g5 (zhi rfl GTyp.f1 zeQ) (zb h fun y7 hy7 h => zaD rfl rfl (dj := 13) rfl g5 (zat ty78 rfl .here hy7 ?_)))))
 exact oK 13 rfl rfl rfl g5 (zaR (l := y7.tags) rfl hI sl78) (oK 13 rfl rfl rfl g5 (zbu rfl rfl) (oV (zr rfl g5 rfl) (hJ4 _ () h _ (jk 8 21 rfl rfl rfl))))

theorem zgE : ∀ n, zhC (zgJ n)
 | 0 => fun h => (by cases h)
 | n + 1 => zkD (zgE n)
theorem zlq (n : Nat) : zhC (zgJ n) := (zgE n)

def zgu (f' : (List GTyp) → Int → Option ((List Tag))) : Prop :=
 ∀ {a_l : (List GTyp)} {a_i : Int} {zc1 : Vt} {r : (List Tag)}, f' a_l a_i = some r → Ctr Tryz.prog 79 [vecv zc1 (a_l.length), isv (a_i)] [vecE zc1 (a_l : List GTyp)] (fun R H => R = oneOf [isv (r)] ∧ H = [vecE zc1 (a_l : List GTyp)])
theorem zjw {zfy : (List GTyp) → Int → Option ((List Tag))} (zku : zgu zfy) : ∀ {a_l : (List GTyp)} {a_i : Int} {zc1 : Vt} {r : (List Tag)}, zed zfy a_l a_i = some r → Ctr Tryz.prog 79 [vecv zc1 (a_l.length), isv (a_i)] [vecE zc1 (a_l : List GTyp)] (fun R H => R = oneOf [isv (r)] ∧ H = [vecE zc1 (a_l : List GTyp)]) := by
 intro a_l a_i zc1 r h
 unfold zed at h
 refine zp Tryz.func79 rfl fun w0 S0 hT => wsr (oA rfl (rnf (zj (wsr (oM rfl (oM rfl (zI h fun q1 h => ?_)))))))
 refine oV (zam (α := GTyp) sl24 rfl rfl q1.1 q1.2) (oV (zhi rfl GTyp.f1 zeQ) (zb h fun y2 hy2 h => oT (zat ty78 rfl .here hy2 ?_)))
 refine oV (zaR (l := y2.tags) rfl hI sl78) (oV (zbu rfl rfl) (rnf (zg h rfl (fun _ h => ?_) (fun _ h => ?_))))
 ·refine wsr (oM rfl (oM rfl (zI h fun q3 h => oV (zam (α := GTyp) sl24 rfl rfl q3.1 q3.2) (oV (zhi rfl GTyp.f1 zeQ) (zb h fun y4 hy4 h => oT (zat ty78 rfl .here hy4 ?_))))))
  refine zI h fun q5 h => oV (zfl (l := y4.tags) rfl hI sl78 (.inl ⟨rfl, rfl⟩) (.inr ⟨_, rfl, rfl⟩) q5.1 q5.2.1 q5.2.2) (oA rfl (rnf (zJ (zA ?_))))
  cases h
  exact zk (.tmp rfl .nil) k1 ⟨rfl, rfl⟩
 refine wkf (wsr (oA rfl (rnf (zj (wsr (oA rfl (rnf (zq ?_))))))))
 refine zfH (zaI) (zaN (ι := (List Tag) × Int) (γ := Tok) (fun q6 g6 => [(5, appv g6 (q6.1)), (6, isv (q6.2))]) (fun q6 g6 => [tokE g6]) h (none) (za (j := 5) rfl zbn (za (j := 6) rfl hI zd)) k1 (fun L7 q6 g6 Q27 h hL7 eL7 rL7 => zj (wsr (oM rfl (oM rfl (oM rfl (zI h fun q17 h => oV (zam (α := GTyp) sl24 rfl rfl q17.1 q17.2) ?_)))))))
 refine oV (zhi rfl GTyp.f4 zbA) (zb h fun y18 hy18 h => oT (zat ty85 rfl tH hy18 ?_))
 refine oV (zaR (l := y18.fields) rfl hI sl85) (oV (zaj rfl rfl) (rnf (zg h rfl (fun _ h => ?_) (fun _ h => ?_))))
 ·refine wkf (zj (zq (zh (oM rfl (oM rfl (oM rfl (oM rfl (zI h fun q19 h => ?_))))))))
  refine oV (zam (α := GTyp) sl24 rfl rfl q19.1 q19.2) (oV (zhi rfl GTyp.f4 zbA) (zb h fun y20 hy20 h => oT (zat ty85 rfl tH hy20 ?_)))
  refine oM rfl (zb h fun y21 hy21 h => oV (zaz (l := y20.fields) rfl hI rfl sl85 hy21) (oV (zW rfl GFld.f1 zc9 rfl (z := y21.ty)) (oV (zf ty3 rfl) (zb h fun y22 hy22 h => oT (zy (zku hy22) hT (.cons rfl (fun _ _ h => vecvE (by first | rfl | simp) _ _ h) (s1 rfl)) (.cons tH .nil) ?_)))))
  refine zal h fun q24 h => oT (zaZ (l := q6.1) (m := y22) zfw rfl hI rfl hI tH q24 fun t23 => oA rfl (zw (zi (zx (zh (oM rfl (zz h fun q25 h => ?_)))))))
  exact oV (zaa rfl rfl q25) (oA rfl (zw (hL7 _ (t23) h _ (ze 27 rfl rfl (za (j := 5) rfl hI (za (j := 6) rfl hI zd)) k2))))
 refine zad (zU (eL7 _ _ (zE (zx (wsr (oM rfl (oA rfl (rnf ?_))))))))
 refine zJ ?_
 cases h
 exact zk (.as rfl zF .nil) (.cons tH .nil) ⟨rfl, rfl⟩

theorem zf7 : ∀ n, zgu (zfo n)
 | 0 => fun h => (by cases h)
 | n + 1 => zjw (zf7 n)
theorem zkb (n : Nat) : zgu (zfo n) := (zf7 n)

theorem ziX : ∀ {a_l : (List Tag)} {a_x : Tag} {r : Bool}, zec a_l a_x = some r → Ctr Tryz.prog 166 [isv (a_l), isv (a_x)] [] (fun R H => R = oneOf [isv (r)] ∧ H = []) := by
 intro a_l a_x r h
 unfold zec at h
 refine zp Tryz.func166 rfl fun w0 S0 hT => wsr (oT (zaV (y := a_x) rfl hI (oA rfl (rnf (zj (wsr (oA rfl (rnf ?_))))))))
 refine zq (zaN (ι := Int) (γ := Unit) (fun q1 g1 => [(5, isv (q1))]) (fun q1 g1 => []) h () (za (j := 5) rfl hI zd) .nil (fun L2 q1 g1 Q7 h hL2 eL2 rL2 => zj (wsr (oM rfl (oM rfl (oV (zaR (l := a_l) rfl hI sl78) (oV (zaj rfl rfl) (rnf ?_))))))))
 refine zg h rfl (fun _ h => ?_) (fun _ h => ?_)
 ·refine wkf (zj (zq (zj (zS (.v 0 (.v 1 (.v 2 (.v 3 (.v 4 (.v 5 .nil)))))) moOrd (by kernel_rfl) ?_))))
  refine rvm rfl rfl (rvm rfl rfl (zb h fun y5 hy5 h => zo rfl (zaz (l := a_l) rfl hI rfl sl78 hy5) (zo rfl (zf ty31 rfl) (zo rfl (zf ty31 rfl) (zo rfl (zcz eq31 rfl rfl) (zab (zx ?_)))))))
  refine zg h rfl (fun _ h => ?_) (fun _ h => ?_)
  ·refine wsr (oA rfl (rnf (zJ (zH (zA (rL2 _ (zH (zA ?_))))))))
   cases h
   exact zk (.tmp rfl .nil) .nil ⟨rfl, rfl⟩
  refine zac (zi (zx (zh (oM rfl (zz h fun q6 h => oV (zaa rfl rfl q6) (oA rfl (zw ?_)))))))
  exact hL2 _ () h _ (ji 14 5 rfl rfl rfl)
 refine zad (zU (eL2 _ _ (zE (zx (wsr (oA rfl (rnf (zJ ?_))))))))
 cases h
 exact zk (.tmp rfl .nil) .nil ⟨rfl, rfl⟩

end Go.Proofs.Q


namespace Go.Proofs.Q
open Go.Sy
set_option maxRecDepth 4000
theorem zjj : ∀ {zeO : (List (List Tag))} {r : Bool}, zee zeO = some r → Ctr Tryz.prog 194 [isv (zeO)] [] (fun R H => R = oneOf [isv (r)] ∧ H = []) := by
 intro zeO r h
 unfold zee at h
 refine zp Tryz.func194 rfl fun w0 S0 hT => wsr (oA rfl (rnf (wsr (oA rfl (rnf (zj (wsr ?_)))))))
 refine oA rfl (rnf (zq (zfH (zaI) (zaN (ι := (List Tag) × Int) (γ := Tok) (fun q1 g1 => [(3, appv g1 (q1.1)), (4, isv (q1.2))]) (fun q1 g1 => [tokE g1]) h (none) (za (j := 3) rfl zbn (za (j := 4) rfl hI zd)) k1 (fun L2 q1 g1 Q55 h hL2 eL2 rL2 => zj (wsr (oM rfl (oM rfl ?_))))))))
 refine oV (zaR (l := zeO) rfl hI sl242) (oV (zaj rfl rfl) (rnf (zg h rfl (fun _ h => ?_) (fun _ h => ?_))))
 ·refine wkf (zj (zq (wsr (oA rfl (rnf (zq (zaN (ι := (List Tag) × Int) (γ := Tok) (fun q29 g29 => [(3, appv g29 (q29.1)), (5, isv (q29.2))]) (fun q29 g29 => [tokE g29]) h (g1) (za (j := 3) rfl hI (za (j := 5) rfl hI zd)) k1 (fun L30 q29 g29 Q53 h hL30 eL30 rL30 => zj ?_))))))))
  refine wsr (oM rfl (oM rfl (oM rfl (zb h fun y42 hy42 h => oV (zaz (l := zeO) rfl hI rfl sl242 hy42) (oV (zf ty78 rfl) (oV (zaR (l := y42) rfl hI sl78) (oV (zaj rfl rfl) ?_)))))))
  refine rnf (zg h rfl (fun _ h => ?_) (fun _ h => ?_))
  ·refine wkf (zj (zq (zj (wsr (oM rfl (oM rfl (oM rfl (zb h fun y43 hy43 h => ?_))))))))
   refine oV (zaz (l := zeO) rfl hI rfl sl242 hy43) (oV (zf ty78 rfl) (oM rfl (zb h fun y44 hy44 h => oV (zaz (l := y43) rfl hI rfl sl78 hy44) (oV (zf ty31 rfl) (zb h fun y45 hy45 h => oT (zy (ziX hy45) hT (.cons rfl zF (s1 rfl)) .nil (rnf ?_)))))))
   refine zg h rfl (fun _ h => ?_) (fun _ h => ?_)
   ·refine wsr (oA rfl (rnf (zJ (zA (zH (zA (rL30 _ (zH ?_))))))))
    refine zH (zA (rL2 _ (zH (zA ?_))))
    cases h
    exact zk (.tmp rfl .nil) .nil ⟨rfl, rfl⟩
   refine wkf (zh (oM rfl (oM rfl (oM rfl (zb h fun y46 hy46 h => oV (zaz (l := zeO) rfl hI rfl sl242 hy46) (oV (zf ty78 rfl) (oM rfl ?_)))))))
   refine zb h fun y47 hy47 h => oV (zaz (l := y46) rfl hI rfl sl78 hy47) (oV (zf ty31 rfl) (oT (zY (l := ([y47] : (List Tag))) el78 (.cons rfl hI .nil) rfl rfl (zal h fun q50 h => oT (zaZ (l := q29.1) (m := ([y47] : (List Tag))) zfw rfl hI rfl zF .here q50 fun t49 => oA rfl (zw (zi ?_)))))))
   exact zx (zh (oM rfl (zz h fun q51 h => oV (zaa rfl rfl q51) (oA rfl (zw (hL30 _ (t49) h _ (ze 32 rfl rfl (za (j := 3) rfl hI (za (j := 5) rfl hI zd)) k1)))))))
  refine zad (zU (eL30 _ _ (zE (zi (zx (zh (oM rfl (zz h fun q52 h => ?_))))))))
  exact oV (zaa rfl rfl q52) (oA rfl (zw (hL2 _ (g29) h _ (ze 19 rfl rfl (za (j := 3) rfl hI (za (j := 4) rfl hI zd)) k1))))
 refine zad (zU (eL2 _ _ (zE (zx (wsr (oA rfl (rnf (zJ ?_))))))))
 cases h
 exact zk (.tmp rfl .nil) .nil ⟨rfl, rfl⟩


theorem zeq : ∀ {a_x : GMk} {a_l : (List GFld)} {zhX : Bool} {zK : Nat} {zah : Vt} {r : Bool × GMk}, zbS a_x a_l zhX = some r → Ctr Tryz.prog 186 [ptrv zK (Fld.id (GMod × Vh × Int)), isv (a_l), isv (zhX)] [boxE zK ((a_x.m, (Vh.mk zah a_x.l.length), a_x.e) : (GMod × Vh × Int)), vecE zah (a_x.l : List GTyp)] (fun R H => R = oneOf [isv (r.1)] ∧ H = [boxE zK ((r.2.m, (Vh.mk zah r.2.l.length), r.2.e)), vecE zah (r.2.l)]) := by
 intro a_x a_l zhX zK zah r h
 unfold zbS at h
 refine zp Tryz.func186 rfl fun w0 S0 hT => wsr (oA rfl (rnf (wsr (oA rfl (rnf (zj (wsr ?_)))))))
 refine oA rfl (rnf (zq (zfH (zaI) (zaN (ι := (List (List Tag)) × Int) (γ := Tok) (fun q2 g2 => [(0, ptrv zK (Fld.id (GMod × Vh × Int))), (7, appv g2 (q2.1)), (8, isv (q2.2))]) (fun q2 g2 => [tokE g2]) h (none) (za (j := 0) rfl hI (za (j := 7) rfl zbn (za (j := 8) rfl hI zd))) k1 (fun L3 q2 g2 Q43 h hL3 eL3 rL3 => zj (wsr (oM rfl (oM rfl ?_))))))))
 refine oV (zaR (l := a_l) rfl hI sl85) (oV (zaj rfl rfl) (rnf (zg h rfl (fun _ h => ?_) (fun _ h => ?_))))
 ·refine wkf (zj (zq (zj (zj (zc7 0 tH rfl (fun o23 hn24 => zS (.v 0 (.v 1 (.v 2 (.v 3 (.v 4 (.v 5 (.v 6 (.v 7 (.v 8 (.t 9 (.v 10 (.v 11 (.v 12 (.v 13 (.v 14 (.v 15 (.v 16 (.v 17 .nil)))))))))))))))))) moOrd (by kernel_rfl) ?_))))))
  refine rvm rfl rfl (zo rfl (zbx rfl) (zo rfl (zga rfl zbE zcD) (zo rfl (zdk (R := vecv zah (a_x.l.length)) ty24 rfl (List.Mem.head _) isvV1) (rvm rfl rfl (rvm rfl rfl (zb h fun y25 hy25 h => zo rfl (zaz (l := a_l) rfl hI rfl sl85 hy25) (zo rfl (zW rfl GFld.f1 zc9 rfl (z := y25.ty)) ?_)))))))
  refine zo rfl (zf ty3 rfl) (zb h fun y26 hy26 h => zR rfl rfl (zy (zlq fuel hy26) hT (.cons rfl (fun _ _ h => vecvE (by first | rfl | simp) _ _ h) (s1 rfl)) (.cons tH .nil) ?_))
  refine rvm rfl rfl (zc8 (jb 32) je .nil h 7 rfl (fun q27 g27 h => ?_) (fun J28 h hJ28 => ?_))
  ·refine zab (zaO 0 hn24 rfl (zx (zg h rfl (fun _ h => ?_) (fun _ h => ?_))))
   ·refine wsr (oA rfl (rnf (zJ (zA (zH (zA (rL3 _ (zH ?_))))))))
    refine zA ?_
    cases h
    exact zk (.tmp rfl .nil) k2 ⟨rfl, rfl⟩
   refine wkf (zc7 0 .here rfl (fun o33 hn34 => zS (.v 0 (.v 1 (.v 2 (.v 3 (.v 4 (.v 5 (.v 6 (.v 7 (.v 8 (.v 9 (.t 10 (.t 11 (.t 12 (.v 13 .nil)))))))))))))) moOrd (by kernel_rfl) ?_))
   refine rvm rfl rfl (rvm rfl rfl (zo rfl (zbx rfl) (zo rfl (zga rfl zbE zcD) (zo rfl (zdk (R := vecv zah (a_x.l.length)) ty24 rfl (List.Mem.head _) isvV1) (rvm rfl rfl (rvm rfl rfl (zb h fun y35 hy35 h => zo rfl (zaz (l := a_l) rfl hI rfl sl85 hy35) ?_)))))))
   refine zo rfl (zW rfl GFld.f1 zc9 rfl (z := y35.ty)) (zo rfl (zf ty3 rfl) (zb h fun y36 hy36 h => zR rfl rfl (zy (zkb fuel hy36) hT (.cons rfl (fun _ _ h => vecvE (by first | rfl | simp) _ _ h) (s1 rfl)) k1 ?_)))
   refine zR rfl rfl (zY (l := ([y36] : (List (List Tag)))) el242 (.cons rfl hI .nil) rfl rfl (zal h fun q39 h => zR rfl rfl (zaZ (l := q2.1) (m := ([y36] : (List (List Tag)))) zmr rfl hI rfl zF tH q39 fun t38 => zo rfl (zaP rfl) (zab (zaO 0 hn34 rfl (zi (zx (zh ?_))))))))
   exact oM rfl (zz h fun q40 h => oV (zaa rfl rfl q40) (oA rfl (zw (hL3 _ (t38) h _ (ze 40 rfl rfl (za (j := 0) rfl hI (za (j := 7) rfl hI (za (j := 8) rfl hI zd))) (.cons tH k2))))))
  refine zaA (j := 25) h rfl (fun g29 h => ?_) (fun g29 h => ?_)
  ·refine rvt 25 rfl rfl rfl g29 (zt rfl) (rvt 25 rfl rfl rfl g29 (zt rfl) (zc8 (jb 31) je .nil h 4 rfl (fun q30 g30 h => ?_) (fun J31 h hJ31 => ?_)))
   ·exact zo rfl (zs rfl g29 rfl) (hJ28 _ () h _ (ze 4 rfl rfl (za (j := 32) rfl hI zd) k2))
   refine zaA (j := 27) h rfl (fun g32 h => ?_) (fun g32 h => ?_)
   ·exact rpv 27 rfl rfl rfl g32 (rpv 27 rfl rfl rfl g32 (rpv 27 rfl rfl rfl g32 (rvt 25 rfl rfl rfl g29 (zs rfl g32 rfl) (hJ31 _ () h _ (ze 4 rfl rfl (za (j := 31) rfl hI zd) k2)))))
   exact rvt 27 rfl rfl rfl g32 (zt rfl) (rvt 27 rfl rfl rfl g32 (zaR (l := a_l) rfl hI sl85) (rvt 27 rfl rfl rfl g32 (zbu rfl rfl) (rvt 25 rfl rfl rfl g29 (zr rfl g32 rfl) (hJ31 _ () h _ (ze 4 rfl rfl (za (j := 31) rfl hI zd) k2)))))
  exact rpv 25 rfl rfl rfl g29 (rpv 25 rfl rfl rfl g29 (ze2 rfl rfl (dj := 27) rfl (ze2 rfl rfl (dj := 27) rfl (ze2 rfl rfl (dj := 27) rfl (rpv 25 rfl rfl rfl g29 (zo rfl (zr rfl g29 rfl) (hJ28 _ () h _ (ze 7 rfl rfl (za (j := 32) rfl hI zd) k2))))))))
 refine zad (zU (eL3 _ _ (zE (zx (wsr (oM rfl (zb h fun y41 hy41 h => oT (zy (zjj hy41) hT (.cons rfl zF .nil) .nil ?_))))))))
 refine oA rfl (rnf (zJ ?_))
 cases h
 exact zk (.tmp rfl .nil) (.cons tH (.cons tH .nil)) ⟨rfl, rfl⟩


theorem ziz : ∀ {a_t : GTyp} {r : (List Bool)}, ze6 a_t = some r → Ctr Tryz.prog 183 [isv (a_t)] [] (fun R H => R = oneOf [isv (r)] ∧ H = []) := by
 intro a_t r h
 unfold ze6 at h
 refine zp Tryz.func183 rfl fun w0 S0 hT => wsr (oT (zaV (y := a_t) rfl hI (oA rfl (rnf (wsr (oA rfl (rnf (zj ?_))))))))
 refine wsr (oA rfl (rnf (zq (zfH (zaI) (zaN (ι := (List Bool) × Int) (γ := Tok) (fun q1 g1 => [(3, appv g1 (q1.1)), (4, isv (q1.2))]) (fun q1 g1 => [tokE g1]) h (none) (za (j := 3) rfl zbn (za (j := 4) rfl hI zd)) k1 (fun L2 q1 g1 Q28 h hL2 eL2 rL2 => zj (wsr (oM rfl ?_))))))))
 refine oV (zW rfl GTyp.f4 zbA rfl (z := a_t.fields)) (oV (zf ty85 rfl) (oV (zaR (l := a_t.fields) rfl hI sl85) (oV (zaj rfl rfl) (rnf (zg h rfl (fun _ h => ?_) (fun _ h => ?_))))))
 ·refine wkf (zj (zq (zh (oM rfl (oV (zW rfl GTyp.f4 zbA rfl (z := a_t.fields)) (oV (zf ty85 rfl) (oM rfl (zb h fun y15 hy15 h => ?_))))))))
  refine oV (zaz (l := a_t.fields) rfl hI rfl sl85 hy15) (oV (zW rfl GFld.f2 zni rfl (z := y15.optional)) (oV (zf ty4 rfl) (oM rfl (zau (jb 26) je .nil h 7 rfl (fun q16 g16 h => ?_) (fun J17 h hJ17 => ?_)))))
  ·refine oM rfl (zau (jb 32) je .nil h 5 rfl (fun q20 g20 h => ?_) (fun J21 h hJ21 => ?_))
   ·refine oT (zY (l := ([q20] : (List Bool))) el49 (.cons rfl hI .nil) rfl rfl (zal h fun q25 h => oT (zaZ (l := q1.1) (m := ([q20] : (List Bool))) zoF rfl hI rfl zF .here q25 fun t24 => oA rfl (zw (zi (zx (zh (oM rfl ?_))))))))
    exact zz h fun q26 h => oV (zaa rfl rfl q26) (oA rfl (zw (hL2 _ (t24) h _ (ze 24 rfl rfl (za (j := 3) rfl hI (za (j := 4) rfl hI zd)) k1))))
   refine zB (j := 27) h rfl (fun g22 h => ?_) (fun g22 h => ?_)
   ·exact oP 27 rfl rfl g22 (oP 27 rfl rfl g22 (oP 27 rfl rfl g22 (oP 27 rfl rfl g22 (oV (zs rfl g22 rfl) (hJ21 _ () h _ (jk 5 32 rfl rfl rfl))))))
   exact oK 27 rfl rfl rfl g22 (zt rfl) (oK 27 rfl rfl rfl g22 (zW rfl GTyp.f5 zfr rfl (z := a_t.root)) (oK 27 rfl rfl rfl g22 (zf ty3 rfl) (oK 27 rfl rfl rfl g22 (zeV rfl rfl) (oV (zr rfl g22 rfl) (hJ21 _ () h _ (jk 5 32 rfl rfl rfl))))))
  refine zB (j := 19) h rfl (fun g18 h => ?_) (fun g18 h => ?_)
  ·exact oP 19 rfl rfl g18 (oP 19 rfl rfl g18 (oP 19 rfl rfl g18 (oP 19 rfl rfl g18 (oP 19 rfl rfl g18 (oP 19 rfl rfl g18 (oV (zs rfl g18 rfl) (hJ17 _ () h _ (jk 7 26 rfl rfl rfl))))))))
  exact oK 19 rfl rfl rfl g18 (zW rfl GTyp.f4 zbA rfl (z := a_t.fields)) (oK 19 rfl rfl rfl g18 (zf ty85 rfl) (oK 19 rfl rfl rfl g18 (zt rfl) (zb h fun y19 hy19 h => oK 19 rfl rfl rfl g18 (zaz (l := a_t.fields) rfl hI rfl sl85 hy19) (oK 19 rfl rfl rfl g18 (zW rfl GFld.f3 zlu rfl (z := y19.has)) (oK 19 rfl rfl rfl g18 (zf ty4 rfl) (oV (zr rfl g18 rfl) (hJ17 _ () h _ (jk 7 26 rfl rfl rfl))))))))
 refine zad (zU (eL2 _ _ (zE (zx (wsr (oM rfl (oA rfl (rnf ?_))))))))
 refine zJ ?_
 cases h
 exact zk (.as rfl zF .nil) .nil ⟨rfl, rfl⟩


theorem zlK : ∀ {a_t : GTyp} {r : Int}, zgU a_t = some r → Ctr Tryz.prog 165 [isv (a_t)] [] (fun R H => R = oneOf [isv (r)] ∧ H = []) := by
 intro a_t r h
 unfold zgU at h
 refine zp Tryz.func165 rfl fun w0 S0 hT => wsr (oT (zaV (y := a_t) rfl hI (oA rfl (rnf (wsr (oV (zf ty87 rfl) (zb h fun y1 hy1 h => oT (zy (ziz hy1) hT (s1 rfl) .nil ?_))))))))
 refine oA rfl (rnf (wsr (oV (zW rfl GTyp.f5 zfr rfl (z := a_t.root)) (oV (zf ty3 rfl) (oA rfl (rnf (zj (zq ?_))))))))
 refine zaN (ι := Int) (γ := Unit) (fun q2 g2 => [(4, isv (q2))]) (fun q2 g2 => []) h () (za (j := 4) rfl hI zd) .nil (fun L3 q2 g2 Q16 h hL3 eL3 rL3 => zj (wsr (oM rfl (oV (zbu rfl rfl) (oM rfl (zau (jb 17) je .nil h 6 rfl (fun q10 g10 h => ?_) (fun J11 h hJ11 => ?_)))))))
 ·refine rnf (zg h rfl (fun _ h => ?_) (fun _ h => ?_))
  ·refine wkf (zq (zh (oM rfl (zz h fun q15 h => oV (zaF rfl rfl q15) (oA rfl (zw (zi ?_)))))))
   exact hL3 _ () h _ (ji 8 4 rfl rfl rfl)
  refine zad (zU (eL3 _ _ (zE (zx (wsr (oM rfl (oA rfl (rnf ?_))))))))
  refine zJ ?_
  cases h
  exact zk (.tmp rfl .nil) .nil ⟨rfl, rfl⟩
 refine zB (j := 11) h rfl (fun g12 h => ?_) (fun g12 h => ?_)
 ·exact oK 11 rfl rfl rfl g12 (zt rfl) (oK 11 rfl rfl rfl g12 (zt rfl) (zz h fun q13 h => oK 11 rfl rfl rfl g12 (zaF rfl rfl q13) (zb h fun y14 hy14 h => oK 11 rfl rfl rfl g12 (zaz (l := y1) rfl hI rfl sl49 hy14) (oK 11 rfl rfl rfl g12 (zf ty4 rfl) (oV (zs rfl g12 rfl) (hJ11 _ () h _ (ji 6 17 rfl rfl rfl)))))))
 exact oP 11 rfl rfl g12 (oP 11 rfl rfl g12 (oP 11 rfl rfl g12 (oP 11 rfl rfl g12 (oP 11 rfl rfl g12 (oV (zr rfl g12 rfl) (hJ11 _ () h _ (ji 6 17 rfl rfl rfl)))))))


theorem zhO : ∀ {a_x : GMk} {a_t : GTyp} {zK : Nat} {zah : Vt} {r : Bool × GMk}, zc4 a_x a_t = some r → Ctr Tryz.prog 176 [ptrv zK (Fld.id (GMod × Vh × Int)), isv (a_t)] [boxE zK ((a_x.m, (Vh.mk zah a_x.l.length), a_x.e) : (GMod × Vh × Int)), vecE zah (a_x.l : List GTyp)] (fun R H => R = oneOf [isv (r.1)] ∧ H = [boxE zK ((r.2.m, (Vh.mk zah r.2.l.length), r.2.e)), vecE zah (r.2.l)]) := by
 intro a_x a_t zK zah r h
 unfold zc4 at h
 refine zp Tryz.func176 rfl fun w0 S0 hT => wsr (oT (zaV (y := a_t) rfl hI (oA rfl (rnf (zj (wsr (oV (zW rfl GTyp.f0 zcx rfl (z := a_t.kind)) (oV (zf ty3 rfl) ?_))))))))
 refine oV (zbo rfl rfl) (rnf (zg h rfl (fun _ h => ?_) (fun _ h => ?_)))
 ·refine wsr (oM rfl (oV (zW rfl GTyp.f4 zbA rfl (z := a_t.fields)) (oV (zf ty85 rfl) (oV (zW rfl GTyp.f6 zkx rfl (z := a_t.more)) (oV (zf ty4 rfl) (zb h fun y2 hy2 h => oT (zy (zeq hy2) hT (s3 rfl rfl rfl) k2 (oA rfl ?_))))))))
  refine rnf (zJ (zA ?_))
  cases h
  exact zk (.tmp rfl .nil) k2 ⟨rfl, rfl⟩
 refine wkf (wsr (oV (zf ty87 rfl) (zb h fun y3 hy3 h => oT (zy (ziz hy3) hT (s1 rfl) .nil (oA rfl (rnf (zj (wsr ?_))))))))
 refine oA rfl (rnf (zq (zaN (ι := Int × GMk) (γ := Unit) (fun q4 g4 => [(6, isv (q4.1))]) (fun q4 g4 => [boxE zK ((q4.2.m, (Vh.mk zah q4.2.l.length), q4.2.e) : (GMod × Vh × Int)), vecE zah (q4.2.l : List GTyp)]) h () (za (j := 6) rfl hI zd) k2 (fun L5 q4 g4 Q66 h hL5 eL5 rL5 => zj (wsr (oM rfl (oV (zW rfl GTyp.f4 zbA rfl (z := a_t.fields)) (oV (zf ty85 rfl) ?_))))))))
 refine oV (zaR (l := a_t.fields) rfl hI sl85) (oV (zaj rfl rfl) (rnf (zg h rfl (fun _ h => ?_) (fun _ h => ?_))))
 ·refine wkf (zj (zdB (ι := GMk) (γ := Unit) (fun q36 g36 => []) (fun q36 g36 => [boxE zK ((q36.m, (Vh.mk zah q36.l.length), q36.e) : (GMod × Vh × Int)), vecE zah (q36.l : List GTyp)]) k2 h (fun q36 g36 h => ?_) (fun J37 h hJ37 => ?_)))
  ·exact zh (oM rfl (zz h fun q59 h => oV (zaa rfl rfl q59) (oA rfl (zw (hL5 _ () h _ (ze 9 rfl rfl (za (j := 6) rfl hI zd) k2))))))
  refine zq (zj (wsr (oM rfl (oM rfl (zb h fun y38 hy38 h => oV (zaz (l := y3) rfl hI rfl sl49 hy38) (oV (zf ty4 rfl) (oV (zbq rfl) ?_)))))))
  refine rnf (zg h rfl (fun _ h => ?_) (fun _ h => ?_))
  ·exact zad (zU (zE (hJ37 _ () h _ (ze 5 rfl rfl zd k2))))
  refine wkf (wsr (oM rfl (zz h fun q39 h => oV (zaa rfl rfl q39) (oA rfl (rnf (zj (zq ?_)))))))
  refine zaN (ι := Int) (γ := Unit) (fun q40 g40 => [(7, isv (q40))]) (fun q40 g40 => []) h () (za (j := 7) rfl hI zd) .nil (fun L41 q40 g40 Q58 h hL41 eL41 rL41 => zj (wsr (oM rfl (oV (zW rfl GTyp.f4 zbA rfl (z := a_t.fields)) (oV (zf ty85 rfl) (oV (zaR (l := a_t.fields) rfl hI sl85) (oV (zaj rfl rfl) (oM rfl ?_))))))))
  refine zau (jb 43) je .nil h 5 rfl (fun q50 g50 h => ?_) (fun J51 h hJ51 => ?_)
  ·refine rnf (zg h rfl (fun _ h => ?_) (fun _ h => ?_))
   ·refine wkf (zq (zh (oM rfl (zz h fun q54 h => oV (zaa rfl rfl q54) (oA rfl (zw (zi ?_)))))))
    exact hL41 _ () h _ (ze 11 rfl rfl (za (j := 7) rfl hI zd) k2)
   refine zad (zU (eL41 _ _ (zE (zx (wsr (oM rfl (oV (zW rfl GTyp.f4 zbA rfl (z := a_t.fields)) (oV (zf ty85 rfl) ?_))))))))
   refine oM rfl (oM rfl (zz h fun q55 h => oV (zaa rfl rfl q55) (oV (zW rfl GTyp.f4 zbA rfl (z := a_t.fields)) (oV (zf ty85 rfl) (oV (zaR (l := a_t.fields) rfl hI sl85) (oV (znk rfl rfl) (zI h fun q56 h => ?_)))))))
   refine oV (zfl (l := a_t.fields) rfl hI sl85 (.inr ⟨_, rfl, rfl⟩) (.inr ⟨_, rfl, rfl⟩) q56.1 q56.2.1 q56.2.2) (zb h fun y57 hy57 h => oT (zy (zeq hy57) hT (s3 rfl rfl rfl) k2 (oV (zbq rfl) (rnf (zg h rfl (fun _ h => ?_) (fun _ h => ?_))))))
   ·refine wsr (oA rfl (rnf (zJ (zH (zA (rL5 _ (zH (zA ?_))))))))
    cases h
    exact zk (.tmp rfl .nil) k2 ⟨rfl, rfl⟩
   exact zac (zi (hJ37 _ () h _ (ze 29 rfl rfl zd k2)))
  refine zB (j := 38) h rfl (fun g52 h => ?_) (fun g52 h => ?_)
  ·exact oK 38 rfl rfl rfl g52 (zt rfl) (oK 38 rfl rfl rfl g52 (zt rfl) (zb h fun y53 hy53 h => oK 38 rfl rfl rfl g52 (zaz (l := y3) rfl hI rfl sl49 hy53) (oK 38 rfl rfl rfl g52 (zf ty4 rfl) (oV (zs rfl g52 rfl) (hJ51 _ () h _ (ze 5 rfl rfl (za (j := 43) rfl hI zd) k2))))))
  exact oP 38 rfl rfl g52 (oP 38 rfl rfl g52 (oP 38 rfl rfl g52 (oP 38 rfl rfl g52 (oV (zr rfl g52 rfl) (hJ51 _ () h _ (ze 5 rfl rfl (za (j := 43) rfl hI zd) k2))))))
 refine zad (zU (eL5 _ _ (zE (zx (zj (zS (.v 0 (.v 1 (.v 2 (.v 3 (.v 4 (.v 5 (.v 6 (.v 7 (.t 8 (.v 9 (.t 10 (.v 11 (.v 12 .nil))))))))))))) moOrd (by kernel_rfl) ?_))))))
 refine zo rfl (zW rfl GTyp.f6 zkx rfl (z := a_t.more)) (zo rfl (zf ty4 rfl) (zo rfl (zbq rfl) (rvm rfl rfl (zc8 (ι := Bool × GMk) (γ := Unit) (fun q60 g60 => [(70, isv (q60.1))]) (fun q60 g60 => [boxE zK ((q60.2.m, (Vh.mk zah q60.2.l.length), q60.2.e) : (GMod × Vh × Int)), vecE zah (q60.2.l : List GTyp)]) k2 h 8 rfl (fun q60 g60 h => ?_) (fun J61 h hJ61 => ?_)))))
 ·refine zo rfl (zaP rfl) (zab (zx (zJ ?_)))
  cases h
  exact zk (.tmp rfl .nil) k2 ⟨rfl, rfl⟩
 refine zaA (j := 62) h rfl (fun g62 h => ?_) (fun g62 h => ?_)
 ·exact rpv 62 rfl rfl rfl g62 (rpv 62 rfl rfl rfl g62 (rpv 62 rfl rfl rfl g62 (rpv 62 rfl rfl rfl g62 (za4 rfl rfl (dj := 62) rfl g62 (rpv 62 rfl rfl rfl g62 (za4 rfl rfl (dj := 62) rfl g62 (zo rfl (zs rfl g62 rfl) (hJ61 _ () h _ (ze 8 rfl rfl (za (j := 70) rfl hI zd) k2)))))))))
 refine rvt 62 rfl rfl rfl g62 (zt rfl) (rvt 62 rfl rfl rfl g62 (zW rfl GTyp.f4 zbA rfl (z := a_t.fields)) (rvt 62 rfl rfl rfl g62 (zf ty85 rfl) (rvt 62 rfl rfl rfl g62 (zf ty87 rfl) (zb h fun y63 hy63 h => zc2 rfl rfl rfl (dj := 62) rfl g62 (zy (zlK hy63) hT (s1 rfl) .nil (zI h fun q64 h => rvt 62 rfl rfl rfl g62 (zfl (l := a_t.fields) rfl hI sl85 (.inr ⟨_, rfl, rfl⟩) (.inl ⟨rfl, rfl⟩) q64.1 q64.2.1 q64.2.2) (zb h fun y65 hy65 h => ?_)))))))
 exact zc2 rfl rfl rfl (dj := 62) rfl g62 (zy (zeq hy65) hT (s3 rfl rfl rfl) k2 (zo rfl (zr rfl g62 rfl) (hJ61 _ () h _ (ze 8 rfl rfl (za (j := 70) rfl hI zd) k2))))


def zcV (f' : GMk → Int → GNode → Int → Option (GMk)) : Prop :=
 ∀ {a_x : GMk} {a_i : Int} {a_n_ : GNode} {zZ : Int} {zK : Nat} {zah : Vt} {r : GMk}, f' a_x a_i a_n_ zZ = some r → Ctr Tryz.prog 154 [ptrv zK (Fld.id (GMod × Vh × Int)), isv (a_i), isv (a_n_), isv (zZ)] [boxE zK ((a_x.m, (Vh.mk zah a_x.l.length), a_x.e) : (GMod × Vh × Int)), vecE zah (a_x.l : List GTyp)] (fun R H => ∃ u1 : Vt, R = oneOf [] ∧ H = [boxE zK ((r.m, (Vh.mk u1 r.l.length), r.e)), vecE u1 (r.l)])
def zcJ (f' : GMk → Int → Int → Option (Int × GMk)) : Prop :=
 ∀ {a_x : GMk} {a_k : Int} {zZ : Int} {zK : Nat} {zah : Vt} {r : Int × GMk}, f' a_x a_k zZ = some r → Ctr Tryz.prog 77 [ptrv zK (Fld.id (GMod × Vh × Int)), isv (a_k), isv (zZ)] [boxE zK ((a_x.m, (Vh.mk zah a_x.l.length), a_x.e) : (GMod × Vh × Int)), vecE zah (a_x.l : List GTyp)] (fun R H => ∃ u1 : Vt, R = oneOf [isv (r.1)] ∧ H = [boxE zK ((r.2.m, (Vh.mk u1 r.2.l.length), r.2.e)), vecE u1 (r.2.l)])
def zdw (f' : GMk → GNode → Int → Option (Int × GMk)) : Prop :=
 ∀ {a_x : GMk} {a_n_ : GNode} {zZ : Int} {zK : Nat} {zah : Vt} {r : Int × GMk}, f' a_x a_n_ zZ = some r → Ctr Tryz.prog 113 [ptrv zK (Fld.id (GMod × Vh × Int)), isv (a_n_), isv (zZ)] [boxE zK ((a_x.m, (Vh.mk zah a_x.l.length), a_x.e) : (GMod × Vh × Int)), vecE zah (a_x.l : List GTyp)] (fun R H => ∃ u1 : Vt, R = oneOf [isv (r.1)] ∧ H = [boxE zK ((r.2.m, (Vh.mk u1 r.2.l.length), r.2.e)), vecE u1 (r.2.l)])
theorem zhj {zaJ : GMk → Int → GNode → Int → Option (GMk)} {zaH : GMk → Int → Int → Option (Int × GMk)} {zaS : GMk → GNode → Int → Option (Int × GMk)} (zdN : zcV zaJ) (zbL : zcJ zaH) (zes : zdw zaS) : ∀ {a_x : GMk} {a_i : Int} {a_n_ : GNode} {zZ : Int} {zK : Nat} {zah : Vt} {r : GMk}, zcc zaJ zaH zaS a_x a_i a_n_ zZ = some r → Ctr Tryz.prog 154 [ptrv zK (Fld.id (GMod × Vh × Int)), isv (a_i), isv (a_n_), isv (zZ)] [boxE zK ((a_x.m, (Vh.mk zah a_x.l.length), a_x.e) : (GMod × Vh × Int)), vecE zah (a_x.l : List GTyp)] (fun R H => ∃ u1 : Vt, R = oneOf [] ∧ H = [boxE zK ((r.m, (Vh.mk u1 r.l.length), r.e)), vecE u1 (r.l)]) := by
 intro a_x a_i a_n_ zZ zK zah r h
 unfold zcc at h
 refine zp Tryz.func154 rfl fun w0 S0 hT => wsr (oT (zaV (y := a_n_) rfl hI (rnf (wsr (oM rfl (oV (zu rfl) (oV (zag rfl zet zgk) (oV (zag rfl GMod.f1 zkh) ?_))))))))
 refine oT (zM (R := isv (a_x.m.tagging)) ty3 rfl .here hI (oV (zbo rfl rfl) (oA rfl (rnf (zj (wsr (oA rfl (rnf (zq ?_)))))))))
 refine zaN (ι := Bool × Int) (γ := Unit) (fun q2 g2 => [(0, ptrv zK (Fld.id (GMod × Vh × Int))), (8, isv (q2.1)), (9, isv (q2.2))]) (fun q2 g2 => []) h () (za (j := 0) rfl hI (za (j := 8) rfl hI (za (j := 9) rfl hI zd))) .nil (fun L3 q2 g2 Q336 h hL3 eL3 rL3 => zj (wsr (oM rfl (oV (zW rfl GNode.f5 zdr rfl (z := a_n_.fields)) (oV (zf ty85 rfl) (oV (zaR (l := a_n_.fields) rfl hI sl85) (oV (zaj rfl rfl) (rnf ?_))))))))
 refine zg h rfl (fun _ h => ?_) (fun _ h => ?_)
 ·refine wkf (zj (zq (wsr (oV (zW rfl GNode.f5 zdr rfl (z := a_n_.fields)) (oV (zf ty85 rfl) (oM rfl (zb h fun y170 hy170 h => oV (zaz (l := a_n_.fields) rfl hI rfl sl85 hy170) ?_)))))))
  refine oV (zf ty92 rfl) (oT (zaf _ ze92 fun b171 => oT (zm (y' := (y170 : GFld)) ty92 rfl rfl hI .here rfl (zG (zaq 10 .here rfl) (rnf (zc7 0 .here rfl (fun o172 hn173 => zS (.v 0 (.v 1 (.v 2 (.v 3 (.v 4 (.v 5 (.v 6 (.v 7 (.v 8 (.v 9 (.v 10 (.v 11 (.v 12 (.v 13 (.v 14 .nil))))))))))))))) moOrd (by kernel_rfl) ?_)))))))
  refine rvm rfl rfl (rvm rfl rfl (zc8 (jb 46) je .nil h 12 rfl (fun q174 g174 h => ?_) (fun J175 h hJ175 => ?_)))
  ·refine zo rfl (zaP rfl) (zab (zaO 0 hn173 rfl (zi (zx (zh (oM rfl (zz h fun q178 h => oV (zaa rfl rfl q178) ?_)))))))
   exact oA rfl (zw (hL3 _ () h _ (ze 24 rfl rfl (za (j := 0) rfl hI (za (j := 8) rfl hI (za (j := 9) rfl hI zd))) k2)))
  refine zaA (j := 34) h rfl (fun g176 h => ?_) (fun g176 h => ?_)
  ·refine rpv 34 rfl rfl rfl g176 (rpv 34 rfl rfl rfl g176 (rpv 34 rfl rfl rfl g176 (rpv 34 rfl rfl rfl g176 (rpv 34 rfl rfl rfl g176 (rpv 34 rfl rfl rfl g176 (rpv 34 rfl rfl rfl g176 (rpv 34 rfl rfl rfl g176 (rpv 34 rfl rfl rfl g176 ?_))))))))
   exact rpv 34 rfl rfl rfl g176 (rpv 34 rfl rfl rfl g176 (zo rfl (zs rfl g176 rfl) (hJ175 _ () h _ (jk 12 46 rfl rfl rfl))))
  refine rvt 34 rfl rfl rfl g176 (zt rfl) (rvt 34 rfl rfl rfl g176 (zbx rfl) (rvt 34 rfl rfl rfl g176 (zga rfl zet zgk) (rvt 34 rfl rfl rfl g176 (zga rfl GMod.f4 zgr) (rvt 34 rfl rfl rfl g176 (zdk (R := isv (a_x.m.nodes)) ty71 rfl (List.Mem.head _) hI) (rvt 34 rfl rfl rfl g176 (zW rfl GFld.f1 zc9 rfl (z := y170.ty)) (rvt 34 rfl rfl rfl g176 (zf ty3 rfl) (zb h fun y177 hy177 h => rvt 34 rfl rfl rfl g176 (zaz (l := a_x.m.nodes) rfl hI rfl sl71 hy177) ?_)))))))
  exact rvt 34 rfl rfl rfl g176 (zW rfl GNode.f2 zfD rfl (z := y177.mark)) (rvt 34 rfl rfl rfl g176 (zW rfl GMark.f0 zkq rfl (z := y177.mark.has)) (rvt 34 rfl rfl rfl g176 (zf ty4 rfl) (zo rfl (zr rfl g176 rfl) (hJ175 _ () h _ (jk 12 46 rfl rfl rfl)))))
 refine zad (zU (eL3 _ _ (zE (zx (zj (wsr (oV (zW rfl GNode.f0 zbH rfl (z := a_n_.kind)) (oV (zf ty3 rfl) ?_))))))))
 refine oV (zao rfl rfl) (oM rfl (zau (jb 55) je .nil h 5 rfl (fun q179 g179 h => ?_) (fun J180 h hJ180 => ?_)))
 ·refine oM rfl (zau (jb 60) je .nil h 4 rfl (fun q182 g182 h => ?_) (fun J183 h hJ183 => ?_))
  ·refine rnf (zdB (ι := GMk) (γ := Unit) (fun q185 g185 => []) (fun q185 g185 => [boxE zK ((q185.m, (Vh.mk zah q185.l.length), q185.e) : (GMod × Vh × Int)), vecE zah (q185.l : List GTyp)]) k2 h (fun q185 g185 h => ?_) (fun J186 h hJ186 => ?_))
   ·refine wsr (oA rfl (rnf (zj (wsr (oA rfl (rnf (zq (zfH (zaI) ?_))))))))
    refine zaN (ι := (List GFld) × Int × GMk) (γ := Tok × Vt) (fun q188 g188 => [(11, appv g188.1 (q188.1)), (12, isv (q188.2.1))]) (fun q188 g188 => [tokE g188.1, boxE zK ((q188.2.2.m, (Vh.mk g188.2 q188.2.2.l.length), q188.2.2.e) : (GMod × Vh × Int)), vecE g188.2 (q188.2.2.l : List GTyp)]) h (none, zah) (za (j := 11) rfl zbn (za (j := 12) rfl hI zd)) k3 (fun L189 q188 g188 Q335 h hL189 eL189 rL189 => zj (wsr (oM rfl (oV (zW rfl GNode.f5 zdr rfl (z := a_n_.fields)) (oV (zf ty85 rfl) (oV (zaR (l := a_n_.fields) rfl hI sl85) (oV (zaj rfl rfl) (oM rfl ?_))))))))
    refine zau (jb 74) je .nil h 6 rfl (fun q262 g262 h => ?_) (fun J263 h hJ263 => ?_)
    ·refine rnf (zg h rfl (fun _ h => ?_) (fun _ h => ?_))
     ·refine wkf (zj (zq (wsr (oV (zW rfl GNode.f5 zdr rfl (z := a_n_.fields)) (oV (zf ty85 rfl) (oM rfl (zb h fun y265 hy265 h => oV (zaz (l := a_n_.fields) rfl hI rfl sl85 hy265) ?_)))))))
      refine oV (zf ty92 rfl) (oT (zaf _ ze92 fun b266 => oT (zm (y' := (y265 : GFld)) ty92 rfl rfl hI .here rfl (rnf (zj (wsr (oA rfl (rnf (zq ?_)))))))))
      refine zaN (ι := Int × GMk) (γ := Unit) (fun q267 g267 => [(13, ptrv b266 (Fld.id GFld)), (14, isv (q267.1))]) (fun q267 g267 => [boxE zK ((q267.2.m, (Vh.mk g188.2 q267.2.l.length), q267.2.e) : (GMod × Vh × Int)), vecE g188.2 (q267.2.l : List GTyp)]) h () (za (j := 13) rfl hI (za (j := 14) rfl hI zd)) (.cons tI (.cons tI .nil)) (fun L268 q267 g267 Q327 h hL268 eL268 rL268 => zj (wsr (oM rfl (oM rfl (oV (zaj rfl rfl) (rnf (zg h rfl (fun _ h => ?_) (fun _ h => ?_))))))))
      ·refine wkf (zj (zdB (ι := GMk) (γ := Unit) (fun q298 g298 => [(13, ptrv b266 (Fld.id GFld))]) (fun q298 g298 => [boxE zK ((q298.m, (Vh.mk g188.2 q298.l.length), q298.e) : (GMod × Vh × Int)), vecE g188.2 (q298.l : List GTyp)]) k2 h (fun q298 g298 h => ?_) (fun J299 h hJ299 => ?_)))
       ·exact zh (oM rfl (zz h fun q304 h => oV (zaa rfl rfl q304) (oA rfl (zw (hL268 _ () h _ (ze 9 rfl rfl (za (j := 13) rfl hI (za (j := 14) rfl hI zd)) k4))))))
       refine zq (zj (zc7 13 tI rfl (fun o300 hn301 => zS (.v 0 (.v 1 (.v 2 (.v 3 (.v 4 (.v 5 (.v 6 (.v 7 (.v 8 .nil))))))))) moOrd (by kernel_rfl) ?_)))
       refine zo rfl (zW rfl GNode.f5 zdr rfl (z := a_n_.fields)) (zo rfl (zf ty85 rfl) (rvm rfl rfl (zb h fun y302 hy302 h => zo rfl (zaz (l := a_n_.fields) rfl hI rfl sl85 hy302) (zo rfl (zW rfl GFld.f0 zlG rfl (z := y302.name)) (zo rfl (zf ty9 rfl) (zo rfl (zga rfl GFld.f0 zlG) (zo rfl (zdk (R := isv (y265.name)) ty9 rfl (List.Mem.head _) hI) ?_)))))))
       refine zo rfl (zcz eq9 rfl rfl) (zab (zaO 13 hn301 rfl (zx (zg h rfl (fun _ h => ?_) (fun _ h => ?_)))))
       ·exact zh (oM rfl (zb h fun y303 hy303 h => oT (zy (zbh hy303) hT (s2 rfl rfl) (.cons tH (.cons tH .nil)) (zw (zi (hJ299 _ () h _ (ze 13 rfl rfl (za (j := 13) rfl hI zd) k4)))))))
       exact zac (zi (hJ299 _ () h _ (ze 11 rfl rfl (za (j := 13) rfl hI zd) (.cons tH (.cons tH k2)))))
      refine zad (zU (eL268 _ _ (zE (zx (wsr (oM rfl (oV (zag rfl GFld.f1 zc9) (oT (zM (R := isv (y265.ty)) ty3 rfl tI hI ?_)))))))))
      refine oM rfl (zz h fun q305 h => oV (zaa rfl rfl q305) (zb h fun y306 hy306 h => oT (zN (zbL hy306) hT (s3 rfl rfl rfl) k2 (fun R H' hR => ?_))))
      obtain ⟨v307, rfl, rfl⟩ := hR
      refine oV (zag rfl GFld.f1 zc9) (oT (zm (y' := ({ y265 with ty := y306.1 } : GFld)) ty3 rfl rfl hI tI rfl (rnf (zj (wsr (oM rfl (oV (zu rfl) (oV (zag rfl zcj zdI) (oT (zM (R := isv (y306.2.e)) ty65 rfl tH hI ?_))))))))))
      refine oV (zao rfl rfl) (oM rfl (zau (jb 113) je .nil h 3 rfl (fun q308 g308 h => ?_) (fun J309 h hJ309 => ?_)))
      ·refine rnf (zdB (ι := GFld × GMk) (γ := Unit) (fun q311 g311 => []) (fun q311 g311 => [boxE b266 (q311.1 : GFld), boxE zK ((q311.2.m, (Vh.mk v307 q311.2.l.length), q311.2.e) : (GMod × Vh × Int)), vecE v307 (q311.2.l : List GTyp)]) k3 h (fun q311 g311 h => ?_) (fun J312 h hJ312 => ?_))
       ·refine zj (wsr (oM rfl (oV (zu rfl) (oV (zag rfl zcj zdI) (oT (zM (R := isv (q311.2.e)) ty65 rfl tH hI (oV (zao rfl rfl) (oM rfl (zau (jb 129) je .nil h 3 rfl (fun q314 g314 h => ?_) (fun J315 h hJ315 => ?_))))))))))
        ·refine rnf (zdB (ι := GMk) (γ := Unit) (fun q317 g317 => [(13, ptrv b266 (Fld.id GFld))]) (fun q317 g317 => [boxE zK ((q317.m, (Vh.mk v307 q317.l.length), q317.e) : (GMod × Vh × Int)), vecE v307 (q317.l : List GTyp)]) (.cons tH (.cons tH .nil)) h (fun q317 g317 h => ?_) (fun J318 h hJ318 => ?_))
         ·refine zh (oM rfl (oT (zM (R := isv (q311.1)) ty92 rfl tI hI (oT (zY (l := ([q311.1] : (List GFld))) el85 (.cons rfl hI .nil) rfl rfl (zal h fun q325 h => oT (zaZ (l := q188.1) (m := ([q311.1] : (List GFld))) zj5 rfl hI rfl zF (.there tI) q325 fun t324 => oA rfl (zw (zi ?_)))))))))
          exact zx (zh (oM rfl (zz h fun q326 h => oV (zaa rfl rfl q326) (oA rfl (zw (hL189 _ (t324, v307) h _ (ze 51 rfl rfl (za (j := 11) rfl hI (za (j := 12) rfl hI zd)) k3)))))))
         refine zg h rfl (fun _ h => ?_) (fun _ h => ?_)
         ·refine zc7 13 .here rfl (fun o319 hn320 => zS (.v 0 (.v 1 (.v 2 (.v 3 (.v 4 (.v 5 (.v 6 (.t 7 (.t 8 .nil))))))))) moOrd (by kernel_rfl) ?_)
          refine rvm rfl rfl (zo rfl (zga rfl GFld.f1 zc9) (zo rfl (zdk (R := isv (q311.1.ty)) ty3 rfl (List.Mem.head _) hI) (rvm rfl rfl (rvm rfl rfl (zo rfl (zga rfl GFld.f1 zc9) (zo rfl (zdk (R := isv (q311.1.ty)) ty3 rfl (List.Mem.head _) hI) (zb h fun y321 hy321 h => zR rfl rfl (zy (zf1 hy321) hT (s2 rfl rfl) k2 ?_))))))))
          exact zb h fun y322 hy322 h => zR rfl rfl (zy (zf3 hy322) hT (s4 rfl rfl rfl rfl) k2 (zab (zaO 13 hn320 rfl (hJ318 _ () h _ (ze 11 rfl rfl (za (j := 13) rfl hI zd) (.cons tH (.cons tH k2)))))))
         exact zac (hJ318 _ () h _ (ze 0 rfl rfl (za (j := 13) rfl hI zd) (.cons tH (.cons tH k2))))
        refine zB (j := 126) h rfl (fun g316 h => ?_) (fun g316 h => ?_)
        ·exact oK 126 rfl rfl rfl g316 (zt rfl) (oK 126 rfl rfl rfl g316 (zbq rfl) (oV (zs rfl g316 rfl) (hJ315 _ () h _ (ze 3 rfl rfl (za (j := 129) rfl hI zd) k4))))
        exact oP 126 rfl rfl g316 (oP 126 rfl rfl g316 (oV (zr rfl g316 rfl) (hJ315 _ () h _ (ze 3 rfl rfl (za (j := 129) rfl hI zd) k4))))
       refine zg h rfl (fun _ h => ?_) (fun _ h => ?_)
       ·refine zh (oM rfl (oV (zag rfl GFld.f1 zc9) (oT (zM (R := isv (y306.1)) ty3 rfl .here hI (oV (zag rfl GFld.f4 zlB) (oT (zM (R := isv (y265.dflt)) ty46 rfl .here hI (zb h fun y313 hy313 h => oT (zy (zgI hy313) hT (s3 rfl rfl rfl) (.cons tH (.cons tH .nil)) (oV (zag rfl GFld.f4 zlB) ?_))))))))))
        exact oT (zm (y' := ({ { y265 with ty := y306.1 } with dflt := y313.1 } : GFld)) ty46 rfl rfl hI tI rfl (zw (hJ312 _ () h _ (ze 7 rfl rfl zd k4))))
       exact zac (hJ312 _ () h _ (ze 0 rfl rfl zd k4))
      refine zB (j := 110) h rfl (fun g310 h => ?_) (fun g310 h => ?_)
      ·exact oK 110 rfl rfl rfl g310 (zag rfl GFld.f3 zlu) (zaD rfl rfl (dj := 110) rfl g310 (zM (R := isv (y265.has)) ty4 rfl .here hI (oV (zs rfl g310 rfl) (hJ309 _ () h _ (ze 3 rfl rfl (za (j := 113) rfl hI zd) k4)))))
      exact oP 110 rfl rfl g310 (oP 110 rfl rfl g310 (oV (zr rfl g310 rfl) (hJ309 _ () h _ (ze 3 rfl rfl (za (j := 113) rfl hI zd) k4))))
     refine zad (zU (eL189 _ _ (zE (zx (wsr (oM rfl (oV (zu rfl) (oV (zag rfl zcj zdI) ?_))))))))
     refine oT (zM (R := isv (q188.2.2.e)) ty65 rfl tH hI (oV (zao rfl rfl) (rnf (zg h rfl (fun _ h => ?_) (fun _ h => ?_)))))
     ·refine wsr (oM rfl (oV (zu rfl) (oV (zag rfl zbE zcD) (oT (zM (R := vecv g188.2 (q188.2.2.l.length)) ty24 rfl tH isvV1 (oM rfl (oM rfl (zI h fun q328 h => oV (zam (α := GTyp) sl24 rfl rfl q328.1 q328.2) ?_))))))))
      refine oV (zhi rfl GTyp.f4 zbA) (zb h fun y329 hy329 h => zG (zO 153 rfl (zF)) (oT (zas ty85 rfl rfl tI hy329 (zG (zhb (y := ((q188.2.2.m, (Vh.mk g188.2 (q188.2.2.l.set a_i.toNat ({ y329 with fields := q188.1 })).length), q188.2.2.e) : (GMod × Vh × Int))) tI (fun S => (Cv.pair Cv.id (Cv.pair (Cv.vhe (by first | rfl | simp)) Cv.id)))) ?_))))
      refine rnf (wsr (oM rfl (oM rfl (oV (zu rfl) (oV (zag rfl zbE zcD) (oT (zM (R := vecv g188.2 ((q188.2.2.l.set a_i.toNat ({ y329 with fields := q188.1 })).length)) ty24 rfl .here isvV1 (oM rfl (zI h fun q330 h => ?_)))))))))
      refine oV (zam (α := GTyp) sl24 rfl rfl q330.1 q330.2) (zb h fun y331 hy331 h => oT (zat ty87 rfl tH hy331 ?_))
      refine zb h fun y332 hy332 h => oT (zy (zhO hy332) hT (s2 rfl rfl) k2 (oV (zbq rfl) (rnf (zg h rfl (fun _ h => ?_) (fun _ h => ?_)))))
      ·refine zh (oM rfl (zb h fun y333 hy333 h => oT (zy (zbh hy333) hT (s2 rfl rfl) k2 (zw (zan .nil k2 ?_)))))
       cases h
       exact ⟨g188.2, rfl, rfl⟩
      refine zac (zan .nil k2 ?_)
      cases h
      exact ⟨g188.2, rfl, rfl⟩
     refine zac (zan .nil (.cons tH (.cons tH .nil)) ?_)
     cases h
     exact ⟨g188.2, rfl, rfl⟩
    refine zB (j := 68) h rfl (fun g264 h => ?_) (fun g264 h => ?_)
    ·exact oK 68 rfl rfl rfl g264 (zt rfl) (oK 68 rfl rfl rfl g264 (zu rfl) (oK 68 rfl rfl rfl g264 (zag rfl zcj zdI) (zaD rfl rfl (dj := 68) rfl g264 (zM (R := isv (q188.2.2.e)) ty65 rfl tH hI (oK 68 rfl rfl rfl g264 (zao rfl rfl) (oV (zs rfl g264 rfl) (hJ263 _ () h _ (ze 6 rfl rfl (za (j := 74) rfl hI zd) k3))))))))
    exact oP 68 rfl rfl g264 (oP 68 rfl rfl g264 (oP 68 rfl rfl g264 (oP 68 rfl rfl g264 (oP 68 rfl rfl g264 (oV (zr rfl g264 rfl) (hJ263 _ () h _ (ze 6 rfl rfl (za (j := 74) rfl hI zd) k3)))))))
   refine zg h rfl (fun _ h => ?_) (fun _ h => ?_)
   ·exact zh (oM rfl (zb h fun y187 hy187 h => oT (zy (zbh hy187) hT (s2 rfl rfl) k2 (zw (hJ186 _ () h _ (ze 2 rfl rfl zd k2))))))
   exact zac (hJ186 _ () h _ (ze 0 rfl rfl zd k2))
  refine zB (j := 56) h rfl (fun g184 h => ?_) (fun g184 h => ?_)
  ·exact oK 56 rfl rfl rfl g184 (zW rfl GNode.f7 zeX rfl (z := a_n_.more)) (oK 56 rfl rfl rfl g184 (zf ty4 rfl) (oK 56 rfl rfl rfl g184 (zbq rfl) (oV (zs rfl g184 rfl) (hJ183 _ () h _ (ze 4 rfl rfl (za (j := 60) rfl hI zd) k2)))))
  exact oP 56 rfl rfl g184 (oP 56 rfl rfl g184 (oP 56 rfl rfl g184 (oV (zr rfl g184 rfl) (hJ183 _ () h _ (ze 4 rfl rfl (za (j := 60) rfl hI zd) k2)))))
 refine zB (j := 50) h rfl (fun g181 h => ?_) (fun g181 h => ?_)
 ·exact oK 50 rfl rfl rfl g181 (zW rfl GNode.f5 zdr rfl (z := a_n_.fields)) (oK 50 rfl rfl rfl g181 (zf ty85 rfl) (oK 50 rfl rfl rfl g181 (zaR (l := a_n_.fields) rfl hI sl85) (oK 50 rfl rfl rfl g181 (zao rfl rfl) (oV (zs rfl g181 rfl) (hJ180 _ () h _ (ze 5 rfl rfl (za (j := 55) rfl hI zd) k2))))))
 exact oP 50 rfl rfl g181 (oP 50 rfl rfl g181 (oP 50 rfl rfl g181 (oP 50 rfl rfl g181 (oV (zr rfl g181 rfl) (hJ180 _ () h _ (ze 5 rfl rfl (za (j := 55) rfl hI zd) k2))))))

theorem zhS {zaJ : GMk → Int → GNode → Int → Option (GMk)} {zaH : GMk → Int → Int → Option (Int × GMk)} {zaS : GMk → GNode → Int → Option (Int × GMk)} (zdN : zcV zaJ) (zbL : zcJ zaH) (zes : zdw zaS) : ∀ {a_x : GMk} {a_k : Int} {zZ : Int} {zK : Nat} {zah : Vt} {r : Int × GMk}, zcS zaJ zaH zaS a_x a_k zZ = some r → Ctr Tryz.prog 77 [ptrv zK (Fld.id (GMod × Vh × Int)), isv (a_k), isv (zZ)] [boxE zK ((a_x.m, (Vh.mk zah a_x.l.length), a_x.e) : (GMod × Vh × Int)), vecE zah (a_x.l : List GTyp)] (fun R H => ∃ u1 : Vt, R = oneOf [isv (r.1)] ∧ H = [boxE zK ((r.2.m, (Vh.mk u1 r.2.l.length), r.2.e)), vecE u1 (r.2.l)]) := by
 intro a_x a_k zZ zK zah r h
 unfold zcS at h
 refine zp Tryz.func77 rfl fun w0 S0 hT => wsr (oA rfl (rnf (zj (wsr (oM rfl (oV (zu rfl) (oV (zag rfl zcj zdI) ?_)))))))
 refine oT (zM (R := isv (a_x.e)) ty65 rfl .here hI (oV (zbo rfl rfl) (rnf (zg h rfl (fun _ h => ?_) (fun _ h => ?_)))))
 ·refine wsr (oA rfl (rnf (zJ (zA (zk (.tmp rfl .nil) k2 ?_)))))
  cases h
  exact ⟨zah, rfl, rfl⟩
 refine wkf (wsr (oM rfl (oV (zu rfl) (oV (zag rfl zet zgk) (oV (zag rfl GMod.f4 zgr) (oT (zM (R := isv (a_x.m.nodes)) ty71 rfl .here hI (oM rfl (zb h fun y2 hy2 h => ?_)))))))))
 refine oV (zaz (l := a_x.m.nodes) rfl hI rfl sl71 hy2) (oV (zf ty167 rfl) (oT (zaf _ ze167 fun b3 => oT (zm (y' := (y2 : GNode)) ty167 rfl rfl hI .here rfl (zG (zaq 7 .here rfl) (rnf (wsr (oA rfl (rnf ?_)))))))))
 refine zj (wsr (oV (zW rfl GNode.f0 zbH rfl (z := y2.kind)) (oV (zf ty3 rfl) (oV (zao rfl rfl) (rnf (zdB (ι := Int × GMk) (γ := Vt) (fun q4 g4 => [(8, isv (q4.1))]) (fun q4 g4 => [boxE zK ((q4.2.m, (Vh.mk g4 q4.2.l.length), q4.2.e) : (GMod × Vh × Int)), vecE g4 (q4.2.l : List GTyp)]) k2 h (fun q4 g4 h => ?_) (fun J5 h hJ5 => ?_)))))))
 ·refine zj (wsr (oM rfl (oV (zu rfl) (oV (zag rfl zcj zdI) (oT (zM (R := isv (q4.2.e)) ty65 rfl .here hI (oV (zao rfl rfl) (oM rfl (zau (jb 56) je .nil h 4 rfl (fun q14 g14 h => ?_) (fun J15 h hJ15 => ?_))))))))))
  ·refine rnf (zdB (ι := GMk) (γ := Unit) (fun q17 g17 => []) (fun q17 g17 => [boxE zK ((q17.m, (Vh.mk g4 q17.l.length), q17.e) : (GMod × Vh × Int)), vecE g4 (q17.l : List GTyp)]) k2 h (fun q17 g17 h => ?_) (fun J18 h hJ18 => ?_))
   ·refine wsr (oM rfl (oA rfl (rnf (zJ (zk (.tmp rfl .nil) k2 ?_)))))
    cases h
    exact ⟨g4, rfl, rfl⟩
   refine zg h rfl (fun _ h => ?_) (fun _ h => ?_)
   ·refine wsr (oA rfl (rnf (zj (zdB (ι := Int × GMk) (γ := Unit) (fun q19 g19 => [(9, isv (q19.1))]) (fun q19 g19 => [boxE zK ((q19.2.m, (Vh.mk g4 q19.2.l.length), q19.2.e) : (GMod × Vh × Int)), vecE g4 (q19.2.l : List GTyp)]) k2 h (fun q19 g19 h => ?_) (fun J20 h hJ20 => ?_)))))
    ·refine zh (oM rfl (oM rfl (oV (zW rfl GNode.f2 zfD rfl (z := y2.mark)) (oV (zW rfl GMark.f1 zmf rfl (z := y2.mark.number)) (oV (zf ty3 rfl) (oM rfl (zb h fun y25 hy25 h => oT (zy (zf3 hy25) hT (s4 rfl rfl rfl rfl) k2 ?_))))))))
     exact zw (hJ18 _ () h _ (ze 9 rfl rfl zd k2))
    refine zq (wsr (oV (zW rfl GNode.f2 zfD rfl (z := y2.mark)) (oV (zW rfl GMark.f2 ziK rfl (z := y2.mark.mode)) (oV (zf ty3 rfl) (oV (zao rfl rfl) (oA rfl (rnf (zg h rfl (fun _ h => ?_) (fun _ h => ?_)))))))))
    ·exact zh (oA rfl (zw (zi (hJ20 _ () h _ (ze 6 rfl rfl (za (j := 9) rfl hI zd) k2)))))
    refine wsr (oV (zW rfl GNode.f2 zfD rfl (z := y2.mark)) (oV (zW rfl GMark.f2 ziK rfl (z := y2.mark.mode)) (oV (zf ty3 rfl) (oV (zao rfl rfl) (oM rfl (zau (jb 74) je .nil h 7 rfl (fun q21 g21 h => ?_) (fun J22 h hJ22 => ?_)))))))
    ·refine oA rfl (rnf (zg h rfl (fun _ h => ?_) (fun _ h => ?_)))
     ·exact zh (oM rfl (oM rfl (zb h fun y24 hy24 h => oT (zy (zf1 hy24) hT (s2 rfl rfl) k2 (oA rfl (zw (zi (hJ20 _ () h _ (ze 16 rfl rfl (za (j := 9) rfl hI zd) k2)))))))))
     exact zac (zi (hJ20 _ () h _ (ze 12 rfl rfl (za (j := 9) rfl hI zd) k2)))
    refine zB (j := 67) h rfl (fun g23 h => ?_) (fun g23 h => ?_)
    ·exact oK 67 rfl rfl rfl g23 (zt rfl) (oK 67 rfl rfl rfl g23 (zu rfl) (oK 67 rfl rfl rfl g23 (zag rfl zet zgk) (oK 67 rfl rfl rfl g23 (zag rfl GMod.f1 zkh) (zaD rfl rfl (dj := 67) rfl g23 (zM (R := isv (q4.2.m.tagging)) ty3 rfl .here hI (oK 67 rfl rfl rfl g23 (zbo rfl rfl) (oV (zs rfl g23 rfl) (hJ22 _ () h _ (ze 7 rfl rfl (za (j := 74) rfl hI zd) k2)))))))))
    exact oP 67 rfl rfl g23 (oP 67 rfl rfl g23 (oP 67 rfl rfl g23 (oP 67 rfl rfl g23 (oP 67 rfl rfl g23 (oP 67 rfl rfl g23 (oV (zr rfl g23 rfl) (hJ22 _ () h _ (ze 7 rfl rfl (za (j := 74) rfl hI zd) k2))))))))
   exact zac (hJ18 _ () h _ (ze 0 rfl rfl zd k2))
  refine zB (j := 52) h rfl (fun g16 h => ?_) (fun g16 h => ?_)
  ·exact oK 52 rfl rfl rfl g16 (zW rfl GNode.f2 zfD rfl (z := y2.mark)) (oK 52 rfl rfl rfl g16 (zW rfl GMark.f0 zkq rfl (z := y2.mark.has)) (oK 52 rfl rfl rfl g16 (zf ty4 rfl) (oV (zs rfl g16 rfl) (hJ15 _ () h _ (ze 4 rfl rfl (za (j := 56) rfl hI zd) k2)))))
  exact oP 52 rfl rfl g16 (oP 52 rfl rfl g16 (oP 52 rfl rfl g16 (oV (zr rfl g16 rfl) (hJ15 _ () h _ (ze 4 rfl rfl (za (j := 56) rfl hI zd) k2)))))
 refine zg h rfl (fun _ h => ?_) (fun _ h => ?_)
 ·refine zS (.v 0 (.v 1 (.v 2 (.v 3 (.v 4 (.v 6 (.v 7 (.v 8 (.v 10 (.v 11 (.v 15 (.alt 5 (.t 9 (.t 12 (.v 13 (.v 14 (.t 16 (.v 17 .nil)))))) (.t 9 (.alt 5 (.t 12 (.v 13 (.v 14 (.t 16 (.v 17 .nil))))) (.t 12 (.t 5 (.v 13 (.v 14 (.t 16 (.v 17 .nil)))))))))))))))))))) moOrd (by kernel_rfl) ?_
  refine rvm rfl rfl (rvm rfl rfl (zo rfl (zu rfl) (zo rfl (zag rfl zet zgk) (zo rfl (zag rfl GMod.f3 ziR) (rvm rfl rfl (zo rfl (zu rfl) (zo rfl (zag rfl zet zgk) (zo rfl (zW rfl GNode.f1 zkc rfl (z := y2.name)) ?_))))))))
  refine zo rfl (zf ty9 rfl) (rvm rfl rfl (zb h fun y6 hy6 h => zb h fun y7 hy7 h => zb h fun y8 hy8 h => zbv ?_ ?_))
  ·refine zR rfl rfl (zM (R := isv (a_x.m.types)) ty23 rfl .here hI (zR rfl rfl (zM (R := isv (a_x.m)) ty73 rfl .here hI (zR rfl rfl (zy (zgz hy6) hT (s2 rfl rfl) .nil (zo rfl (zaz (l := a_x.m.types) rfl hI rfl sl23 hy7) (zo rfl (zf ty3 rfl) (zR rfl rfl (zN (zbL hy8) hT (s3 rfl rfl rfl) k2 (fun R H' hR => ?_))))))))))
   obtain ⟨v9, rfl, rfl⟩ := hR
   exact zo rfl (zaP rfl) (zab (hJ5 _ (v9) h _ (ze 18 rfl rfl (za (j := 8) rfl hI zd) k2)))
  refine zR rfl rfl (zM (R := isv (a_x.m)) ty73 rfl .here hI (zbv ?_ ?_))
  ·refine zR rfl rfl (zM (R := isv (a_x.m.types)) ty23 rfl .here hI (zR rfl rfl (zy (zgz hy6) hT (s2 rfl rfl) .nil (zo rfl (zaz (l := a_x.m.types) rfl hI rfl sl23 hy7) (zo rfl (zf ty3 rfl) (zR rfl rfl (zN (zbL hy8) hT (s3 rfl rfl rfl) k2 (fun R H' hR => ?_))))))))
   obtain ⟨v10, rfl, rfl⟩ := hR
   exact zo rfl (zaP rfl) (zab (hJ5 _ (v10) h _ (ze 18 rfl rfl (za (j := 8) rfl hI zd) k2)))
  refine zR rfl rfl (zy (zgz hy6) hT (s2 rfl rfl) .nil (zR rfl rfl (zM (R := isv (a_x.m.types)) ty23 rfl .here hI (zo rfl (zaz (l := a_x.m.types) rfl hI rfl sl23 hy7) (zo rfl (zf ty3 rfl) (zR rfl rfl (zN (zbL hy8) hT (s3 rfl rfl rfl) k2 (fun R H' hR => ?_))))))))
  obtain ⟨v11, rfl, rfl⟩ := hR
  exact zo rfl (zaP rfl) (zab (hJ5 _ (v11) h _ (ze 18 rfl rfl (za (j := 8) rfl hI zd) k2)))
 refine zh (oM rfl (oV (zf ty167 rfl) (oM rfl (zb h fun y12 hy12 h => oT (zN (zes hy12) hT (s3 rfl rfl rfl) k2 (fun R H' hR => ?_))))))
 obtain ⟨v13, rfl, rfl⟩ := hR
 exact oA rfl (zw (hJ5 _ (v13) h _ (ze 5 rfl rfl (za (j := 8) rfl hI zd) k2)))

theorem zhU {zaJ : GMk → Int → GNode → Int → Option (GMk)} {zaH : GMk → Int → Int → Option (Int × GMk)} {zaS : GMk → GNode → Int → Option (Int × GMk)} (zdN : zcV zaJ) (zbL : zcJ zaH) (zes : zdw zaS) : ∀ {a_x : GMk} {a_n_ : GNode} {zZ : Int} {zK : Nat} {zah : Vt} {r : Int × GMk}, zcF zaJ zaH zaS a_x a_n_ zZ = some r → Ctr Tryz.prog 113 [ptrv zK (Fld.id (GMod × Vh × Int)), isv (a_n_), isv (zZ)] [boxE zK ((a_x.m, (Vh.mk zah a_x.l.length), a_x.e) : (GMod × Vh × Int)), vecE zah (a_x.l : List GTyp)] (fun R H => ∃ u1 : Vt, R = oneOf [isv (r.1)] ∧ H = [boxE zK ((r.2.m, (Vh.mk u1 r.2.l.length), r.2.e)), vecE u1 (r.2.l)]) := by
 intro a_x a_n_ zZ zK zah r h
 unfold zcF at h
 refine zp Tryz.func113 rfl fun w0 S0 hT => wsr (oT (zaV (y := a_n_) rfl hI (oA rfl (rnf (zj (wsr (oM rfl (oV (zbu rfl rfl) ?_))))))))
 refine oM rfl (zau (jb 20) je .nil h 7 rfl (fun q2 g2 h => ?_) (fun J3 h hJ3 => ?_))
 ·refine rnf (zg h rfl (fun _ h => ?_) (fun _ h => ?_))
  ·refine wsr (oM rfl (zb h fun y5 hy5 h => oT (zy (zbh hy5) hT (s2 rfl rfl) k2 (rnf (wsr (oA rfl (rnf (zJ ?_))))))))
   refine zA (zk (.tmp rfl .nil) k2 ?_)
   cases h
   exact ⟨zah, rfl, rfl⟩
  refine wkf (wsr (oM rfl (oV (zu rfl) (oV (zag rfl zbE zcD) (oT (zM (R := vecv zah (a_x.l.length)) ty24 rfl .here isvV1 (oV (zfM sl24 rfl) (oA rfl (rnf ?_)))))))))
  refine wsr (oV (zW rfl GNode.f0 zbH rfl (z := a_n_.kind)) (oV (zf ty3 rfl) (oV (zW rfl GNode.f3 zha rfl (z := a_n_.con)) (oV (zf ty83 rfl) (oV (zW rfl GNode.f6 zfz rfl (z := a_n_.root)) (oV (zf ty3 rfl) (oV (zW rfl GNode.f7 zeX rfl (z := a_n_.more)) (oV (zf ty4 rfl) ?_))))))))
  refine oV (zaC (z := (GTyp.mk a_n_.kind ([] : (List Tag)) a_n_.con ([] : (List GItem)) ([] : (List GFld)) a_n_.root a_n_.more (0 : Int))) rfl bu87 ze87 (.cons GTyp.f0 zcx rfl hI (.cons GTyp.f2 zlX rfl hI (.cons GTyp.f5 zfr rfl hI (.cons GTyp.f6 zkx rfl hI .nil))))) (oT (zaf _ ze87 fun b6 => oT (zm (y' := ((GTyp.mk a_n_.kind ([] : (List Tag)) a_n_.con ([] : (List GItem)) ([] : (List GFld)) a_n_.root a_n_.more (0 : Int)) : GTyp)) ty87 rfl rfl hI .here rfl (rnf (zj (wsr (oV (zW rfl GNode.f0 zbH rfl (z := a_n_.kind)) (oV (zf ty3 rfl) (oV (zbo rfl rfl) ?_)))))))))
  refine rnf (zdB (ι := GTyp) (γ := Unit) (fun q7 g7 => []) (fun q7 g7 => [boxE b6 (q7 : GTyp)]) k1 h (fun q7 g7 h => ?_) (fun J8 h hJ8 => ?_))
  ·refine zj (zdB (ι := GMk) (γ := Vt) (fun q11 g11 => [(8, anyv)]) (fun q11 g11 => [boxE zK ((q11.m, (Vh.mk g11 q11.l.length), q11.e) : (GMod × Vh × Int)), vecE g11 (q11.l : List GTyp)]) (.cons tH (.cons tH .nil)) h (fun q11 g11 h => ?_) (fun J12 h hJ12 => ?_))
   ·refine zj (wsr (oV (zW rfl GNode.f0 zbH rfl (z := a_n_.kind)) (oV (zf ty3 rfl) (rnf (zdB (ι := GMk) (γ := Vt) (fun q20 g20 => []) (fun q20 g20 => [boxE zK ((q20.m, (Vh.mk g20 q20.l.length), q20.e) : (GMod × Vh × Int)), vecE g20 (q20.l : List GTyp)]) k2 h (fun q20 g20 h => ?_) (fun J21 h hJ21 => ?_))))))
    ·refine wsr (oM rfl (oA rfl (rnf (zJ (zk (.tmp rfl .nil) k2 ?_)))))
     cases h
     exact ⟨g20, rfl, rfl⟩
    refine zq (zj (wsr (oV (zao rfl rfl) (oA rfl (rnf (zdB (jb 57) je .nil h (fun q22 g22 h => ?_) (fun J23 h hJ23 => ?_)))))))
    ·refine zg h rfl (fun _ h => ?_) (fun _ h => ?_)
     ·refine wsr (oV (zW rfl GNode.f3 zha rfl (z := a_n_.con)) (oV (zf ty83 rfl) (oV (zW rfl GNode.f0 zbH rfl (z := a_n_.kind)) (oV (zf ty3 rfl) (oV (zbo rfl rfl) (zb h fun y24 hy24 h => oT (zy (zk7 hy24) hT (s2 rfl rfl) .nil (oA rfl ?_))))))))
      refine rnf (zj (wsr (oM rfl (oV (zbo rfl rfl) (rnf (zdB (ι := GMk) (γ := Unit) (fun q25 g25 => []) (fun q25 g25 => [boxE zK ((q25.m, (Vh.mk g11 q25.l.length), q25.e) : (GMod × Vh × Int)), vecE g11 (q25.l : List GTyp)]) k2 h (fun q25 g25 h => ?_) (fun J26 h hJ26 => ?_)))))))
      ·refine wsr (oV (zW rfl GNode.f0 zbH rfl (z := a_n_.kind)) (oV (zf ty3 rfl) (oV (zao rfl rfl) (rnf (zg h rfl (fun _ h => ?_) (fun _ h => ?_))))))
       ·refine wsr (oM rfl (oV (zW rfl GNode.f8 zj8 rfl (z := a_n_.of)) (oV (zf ty3 rfl) (oM rfl (zz h fun q28 h => oV (zaa rfl rfl q28) (zb h fun y29 hy29 h => oT (zN (zbL hy29) hT (s3 rfl rfl rfl) k2 (fun R H' hR => ?_))))))))
        obtain ⟨v30, rfl, rfl⟩ := hR
        refine oA rfl (rnf (wsr (oM rfl (oV (zu rfl) (oV (zag rfl zcj zdI) (oT (zM (R := isv (y29.2.e)) ty65 rfl .here hI (oV (zao rfl rfl) (rnf ?_)))))))))
        refine zg h rfl (fun _ h => ?_) (fun _ h => ?_)
        ·refine zh (oM rfl (oV (zu rfl) (oV (zag rfl zbE zcD) (oT (zM (R := vecv v30 (y29.2.l.length)) ty24 rfl .here isvV1 (oM rfl (oM rfl (zI h fun q31 h => oV (zam (α := GTyp) sl24 rfl rfl q31.1 q31.2) ?_))))))))
         refine oV (zhi rfl GTyp.f7 zo8) (zb h fun y32 hy32 h => oT (zas ty3 rfl rfl tH hy32 (zG (zhb (y := ((y29.2.m, (Vh.mk v30 (y29.2.l.set (((a_x.l.length : Nat) : Int).toNat) ({ y32 with of := y29.1 })).length), y29.2.e) : (GMod × Vh × Int))) tH (fun S => (Cv.pair Cv.id (Cv.pair (Cv.vhe (by first | rfl | simp)) Cv.id)))) ?_)))
         exact zw (zi (hJ21 _ (v30) h _ (ze 35 rfl rfl zd k3)))
        exact zac (zi (hJ21 _ (v30) h _ (ze 27 rfl rfl zd k3)))
       exact zac (zi (hJ21 _ (g11) h _ (ze 15 rfl rfl zd k3)))
      refine zg h rfl (fun _ h => ?_) (fun _ h => ?_)
      ·exact zh (oM rfl (oM rfl (zb h fun y27 hy27 h => oT (zy (zbh hy27) hT (s2 rfl rfl) k2 (zw (hJ26 _ () h _ (ze 3 rfl rfl zd k3)))))))
      exact zac (hJ26 _ () h _ (ze 0 rfl rfl zd k3))
     refine wsr (oV (zao rfl rfl) (oA rfl (rnf (zg h rfl (fun _ h => ?_) (fun _ h => ?_)))))
     ·refine zS (.v 0 (.v 1 (.v 2 (.v 4 (.v 5 (.v 6 (.alt 3 (.t 7 (.v 8 (.v 9 (.t 10 .nil)))) (.t 7 (.t 3 (.v 8 (.v 9 (.t 10 .nil)))))))))))) moOrd (by kernel_rfl) ?_
      refine rvm rfl rfl (zo rfl (zu rfl) (zo rfl (zag rfl zbE zcD) (rvm rfl rfl (rvm rfl rfl (zo rfl (zf ty167 rfl) (zb h fun y33 hy33 h => zI h fun q34 h => zI h fun q35 h => ?_))))))
      refine zb h fun y36 hy36 h => zbv ?_ ?_
      ·refine zR rfl rfl (zM (R := vecv g11 (q11.l.length)) ty24 rfl .here isvV1 (zR rfl rfl (zy (zfu hy33) hT (s2 rfl rfl) k2 (zo rfl (zam (α := GTyp) sl24 rfl rfl q35.1 q35.2) (zo rfl (zhi rfl GTyp.f3 zft) (zR rfl rfl (zas ty84 rfl rfl tH hy36 (zbg (zhb (y := ((y33.2.m, (Vh.mk g11 (y33.2.l.set (((a_x.l.length : Nat) : Int).toNat) ({ y36 with items := y33.1 })).length), y33.2.e) : (GMod × Vh × Int))) tH (fun S => (Cv.pair Cv.id (Cv.pair (Cv.vhe (by first | rfl | simp)) Cv.id)))) ?_))))))))
       exact zab (zi (hJ21 _ (g11) h _ (ze 15 rfl rfl zd k3)))
      refine zR rfl rfl (zy (zfu hy33) hT (s2 rfl rfl) k2 (zR rfl rfl (zM (R := vecv g11 (y33.2.l.length)) ty24 rfl .here isvV1 (zo rfl (zam (α := GTyp) sl24 rfl rfl (by omega) (by omega)) ?_))))
      refine zo rfl (zhi rfl GTyp.f3 zft) (zR rfl rfl (zas ty84 rfl rfl tH hy36 (zbg (zhb (y := ((y33.2.m, (Vh.mk g11 (y33.2.l.set (((a_x.l.length : Nat) : Int).toNat) ({ y36 with items := y33.1 })).length), y33.2.e) : (GMod × Vh × Int))) tH (fun S => (Cv.pair Cv.id (Cv.pair (Cv.vhe (by first | rfl | simp)) Cv.id)))) ?_)))
      exact zab (zi (hJ21 _ (g11) h _ (ze 15 rfl rfl zd k3)))
     refine zj (wsr (oV (zao rfl rfl) (oA rfl (rnf (zdB (jb 107) je .nil h (fun q37 g37 h => ?_) (fun J38 h hJ38 => ?_))))))
     ·refine zg h rfl (fun _ h => ?_) (fun _ h => ?_)
      ·refine zh (oM rfl (oM rfl (oV (zf ty167 rfl) (oM rfl (zb h fun y39 hy39 h => oT (zN (zdN hy39) hT (s4 rfl rfl rfl rfl) k2 (fun R H' hR => ?_)))))))
       obtain ⟨v40, rfl, rfl⟩ := hR
       exact zw (zi (hJ21 _ (v40) h _ (ze 13 rfl rfl zd k3)))
      exact zac (zi (hJ21 _ (g11) h _ (ze 8 rfl rfl zd k3)))
     refine zg h rfl (fun _ h => ?_) (fun _ h => ?_)
     ·exact zac (hJ38 _ () h _ (ze 0 rfl rfl (za (j := 107) rfl hI zd) k3))
     refine wsr (oV (zao rfl rfl) (oA rfl (rnf (zg h rfl (fun _ h => ?_) (fun _ h => ?_)))))
     ·exact zac (hJ38 _ () h _ (ze 2 rfl rfl (za (j := 107) rfl hI zd) k3))
     exact zh (oV (zao rfl rfl) (oA rfl (zw (hJ38 _ () h _ (ze 4 rfl rfl (za (j := 107) rfl hI zd) k3)))))
    refine zg h rfl (fun _ h => ?_) (fun _ h => ?_)
    ·exact zac (hJ23 _ () h _ (ze 0 rfl rfl (za (j := 57) rfl hI zd) k3))
    refine wsr (oV (zao rfl rfl) (oA rfl (rnf (zg h rfl (fun _ h => ?_) (fun _ h => ?_)))))
    ·exact zac (hJ23 _ () h _ (ze 2 rfl rfl (za (j := 57) rfl hI zd) k3))
    refine wsr (oV (zao rfl rfl) (oA rfl (rnf (zg h rfl (fun _ h => ?_) (fun _ h => ?_)))))
    ·exact zac (hJ23 _ () h _ (ze 4 rfl rfl (za (j := 57) rfl hI zd) k3))
    exact zh (oV (zao rfl rfl) (oA rfl (zw (hJ23 _ () h _ (ze 6 rfl rfl (za (j := 57) rfl hI zd) k3)))))
   refine zc7 8 .here rfl (fun o13 hn14 => zS (.v 0 (.v 1 (.v 2 (.v 3 (.v 5 (.alt 4 (.t 6 (.t 7 (.v 8 (.v 9 (.t 10 .nil))))) (.t 6 (.t 4 (.t 7 (.v 8 (.v 9 (.t 10 .nil)))))))))))) moOrd (by kernel_rfl) ?_)
   refine rvm rfl rfl (rvm rfl rfl (zo rfl (zu rfl) (zo rfl (zag rfl zbE zcD) (zo rfl (zdk (R := isv (q7)) ty87 rfl (List.Mem.head _) hI) (zal h fun q17 h => zbv ?_ ?_)))))
   ·refine zR rfl rfl (zM (R := vecv zah (a_x.l.length)) ty24 rfl .here isvV1 (zR rfl rfl (zY (l := ([q7] : (List GTyp))) el24 (.cons rfl hI .nil) rfl rfl (zR rfl rfl (zfv (m := ([q7] : (List GTyp))) zl8 rfl rfl zF tH (by first | rfl | simp) q17 fun v16 => ?_)))))
    exact zo rfl (zu rfl) (zo rfl (zag rfl zbE zcD) (zR rfl rfl (zm (y' := ((a_x.m, (Vh.mk v16 (a_x.l ++ ([q7] : (List GTyp))).length), a_x.e) : (GMod × Vh × Int))) ty24 rfl rfl isvV2 tH rfl (zab (zaO 8 hn14 rfl (hJ12 _ (v16) h _ (ze 12 rfl rfl (za (j := 8) rfl (fun _ _ _ => trivial) zd) (.cons tH (.cons tH k1)))))))))
   refine zR rfl rfl (zY (l := ([q7] : (List GTyp))) el24 (.cons rfl hI .nil) rfl rfl (zR rfl rfl (zM (R := vecv zah (a_x.l.length)) ty24 rfl .here isvV1 (zR rfl rfl (zfv (m := ([q7] : (List GTyp))) zl8 rfl rfl zF tH (by first | rfl | simp) q17 fun v19 => ?_)))))
   exact zo rfl (zu rfl) (zo rfl (zag rfl zbE zcD) (zR rfl rfl (zm (y' := ((a_x.m, (Vh.mk v19 (a_x.l ++ ([q7] : (List GTyp))).length), a_x.e) : (GMod × Vh × Int))) ty24 rfl rfl isvV2 tH rfl (zab (zaO 8 hn14 rfl (hJ12 _ (v19) h _ (ze 12 rfl rfl (za (j := 8) rfl (fun _ _ _ => trivial) zd) (.cons tH (.cons tH k1)))))))))
  refine zg h rfl (fun _ h => ?_) (fun _ h => ?_)
  ·refine zh (oV (zW rfl GNode.f0 zbH rfl (z := a_n_.kind)) (oV (zf ty3 rfl) (zb h fun y9 hy9 h => oT (zy (ziD hy9) hT (s1 rfl) .nil (oT (zY (l := ([y9] : (List Tag))) el78 (.cons rfl hI .nil) rfl rfl (oV (zag rfl GTyp.f1 zeQ) (oT (zm (y' := ((GTyp.mk a_n_.kind ([y9] : (List Tag)) a_n_.con ([] : (List GItem)) ([] : (List GFld)) a_n_.root a_n_.more (0 : Int)) : GTyp)) ty78 rfl rfl zF .here rfl (zw ?_))))))))))
   exact hJ8 _ () h _ (ze 5 rfl rfl zd k3)
  exact zac (hJ8 _ () h _ (ze 0 rfl rfl zd k3))
 refine zB (j := 13) h rfl (fun g4 h => ?_) (fun g4 h => ?_)
 ·exact oP 13 rfl rfl g4 (oP 13 rfl rfl g4 (oP 13 rfl rfl g4 (oP 13 rfl rfl g4 (oP 13 rfl rfl g4 (oP 13 rfl rfl g4 (oV (zs rfl g4 rfl) (hJ3 _ () h _ (ze 7 rfl rfl (za (j := 20) rfl hI zd) k2))))))))
 exact oK 13 rfl rfl rfl g4 (zt rfl) (oK 13 rfl rfl rfl g4 (zu rfl) (oK 13 rfl rfl rfl g4 (zag rfl zbE zcD) (zaD rfl rfl (dj := 13) rfl g4 (zM (R := vecv zah (a_x.l.length)) ty24 rfl .here isvV1 (oK 13 rfl rfl rfl g4 (zfM sl24 rfl) (oK 13 rfl rfl rfl g4 (zeV rfl rfl) (oV (zr rfl g4 rfl) (hJ3 _ () h _ (ze 7 rfl rfl (za (j := 20) rfl hI zd) k2)))))))))

theorem zd2 : ∀ n, zcV (zdp n) ∧ zcJ (zdZ n) ∧ zdw (zd3 n)
 | 0 => ⟨fun h => (by cases h), fun h => (by cases h), fun h => (by cases h)⟩
 | n + 1 => by
  obtain ⟨h0, h1, h2⟩ := zd2 n
  exact ⟨zhj h0 h1 h2, zhS h0 h1 h2, zhU h0 h1 h2⟩
theorem zf5 (n : Nat) : zcJ (zdZ n) := (zd2 n).2.1
theorem zlt : ∀ {a_m : GMod} {r : GTab × Int × Int}, zfZ a_m = some r → Ctr Tryz.prog 40 [isv (a_m)] [] (fun R H => R = oneOf [isv (r.1), isv (r.2.1), isv (r.2.2)] ∧ H = []) := by
 intro a_m r h
 unfold zfZ at h
 refine zp Tryz.func40 rfl fun w0 S0 hT => wsr (oT (zaV (y := a_m) rfl hI (oT (zaf _ ze26 fun b1 => oA rfl (oA rfl (rnf (wsr (oV (zf ty73 rfl) ?_))))))))
 refine zb h fun y2 hy2 h => oT (zy (zkE hy2) hT (s1 rfl) .nil (oM rfl (oV (zaB rfl rfl) (oV (zaB rfl rfl) (oV (zaB rfl rfl) (oA rfl (oA rfl (oA rfl ?_))))))))
 refine rnf (zj (wsr (oM rfl (oV (zbo rfl rfl) (rnf (zg h rfl (fun _ h => ?_) (fun _ h => ?_)))))))
 ·refine wsr (oV (zaC (z := (GTab.mk (Str.mk []) ([] : (List Str)) ([] : (List Int)) ([] : (List GTyp)))) rfl bu26 ze26 .nil) (oM rfl (oM rfl (oT (zm (y' := ((GTab.mk (Str.mk []) ([] : (List Str)) ([] : (List Int)) ([] : (List GTyp))) : GTab)) ty26 rfl rfl hI .here rfl (oA rfl (oA rfl (rnf (zJ ?_)))))))))
  refine zA ?_
  cases h
  exact zk (.cell rfl .here ty26 (.tmp rfl (.tmp rfl .nil))) .nil ⟨rfl, rfl⟩
 refine wkf (wsr (oV (zf ty73 rfl) (oV (zaC (z := ((a_m, (Vh.mk none 0), (0 : Int)) : (GMod × Vh × Int))) rfl bu141 zon (.cons zet zgk rfl hI .nil)) (oT (zkf (y := ((a_m, (Vh.mk none 0), (0 : Int)) : (GMod × Vh × Int))) rfl hI fun b3 => zG (zdo (α := GTyp)) (oA rfl (rnf (zj ?_))))))))
 refine zdB (ι := GTab) (γ := Nat × Tok) (fun q5 g5 => [(9, ptrv g5.1 (Fld.id (Str × (List Str) × (TList Int) × (List GTyp))))]) (fun q5 g5 => [boxE g5.1 ((q5.name, q5.names, (TList.mk g5.2 q5.roots), q5.types) : (Str × (List Str) × (TList Int) × (List GTyp))), tokE g5.2]) .nil h (fun q5 g5 h => ?_) (fun J6 h hJ6 => ?_)
 ·refine zj (wsr (oA rfl (rnf (zq (zaN (ι := Int × GTab × GMk) (γ := Tok × Vt) (fun q16 g16 => [(10, isv (q16.1))]) (fun q16 g16 => [boxE g5.1 ((q16.2.1.name, q16.2.1.names, (TList.mk g16.1 q16.2.1.roots), q16.2.1.types) : (Str × (List Str) × (TList Int) × (List GTyp))), tokE g16.1, boxE b3 ((q16.2.2.m, (Vh.mk g16.2 q16.2.2.l.length), q16.2.2.e) : (GMod × Vh × Int)), vecE g16.2 (q16.2.2.l : List GTyp)]) h (g5.2, none) (za (j := 10) rfl hI zd) (.cons .here (.cons .here (.cons tH k1))) (fun L17 q16 g16 Q50 h hL17 eL17 rL17 => zj (wsr (oM rfl ?_))))))))
  refine oV (zW rfl GMod.f2 zd0 rfl (z := a_m.names)) (oV (zf ty22 rfl) (oV (zaR (l := a_m.names) rfl hI sl22) (oV (zaj rfl rfl) (rnf (zg h rfl (fun _ h => ?_) (fun _ h => ?_))))))
  ·refine wkf (zj (zq (zj (zdB (ι := GTab × GMk) (γ := Tok × Vt) (fun q34 g34 => []) (fun q34 g34 => [boxE g5.1 ((q34.1.name, q34.1.names, (TList.mk g34.1 q34.1.roots), q34.1.types) : (Str × (List Str) × (TList Int) × (List GTyp))), tokE g34.1, boxE b3 ((q34.2.m, (Vh.mk g34.2 q34.2.l.length), q34.2.e) : (GMod × Vh × Int)), vecE g34.2 (q34.2.l : List GTyp)]) (.cons .here (.cons tH k2)) h (fun q34 g34 h => ?_) (fun J35 h hJ35 => ?_)))))
   ·refine wsr (oM rfl (oV (zu rfl) (oV (zag rfl zcj zdI) (oT (zM (R := isv (q34.2.e)) ty65 rfl tI hI (oV (zbo rfl rfl) (rnf (zg h rfl (fun _ h => ?_) (fun _ h => ?_)))))))))
    ·refine zj (zc7 8 tI rfl (fun o47 hn48 => zS (.v 0 (.v 1 (.v 2 (.v 3 (.v 4 (.v 5 (.t 6 (.v 7 (.v 8 .nil))))))))) moOrd (by kernel_rfl) ?_))
     refine zo rfl (zaC (z := (GTab.mk (Str.mk []) ([] : (List Str)) ([] : (List Int)) ([] : (List GTyp)))) rfl bu26 ze26 .nil) (rvm rfl rfl (rvm rfl rfl (zo rfl (zbx rfl) (zo rfl (zga rfl zcj zdI) (zo rfl (zdk (R := isv (q34.2.e)) ty65 rfl (List.Mem.head _) hI) (zR rfl rfl (zm (y' := ((GTab.mk (Str.mk []) ([] : (List Str)) ([] : (List Int)) ([] : (List GTyp))) : GTab)) ty26 rfl rfl hI (.there tI) rfl (zo rfl (zaP rfl) (zo rfl (zaP rfl) ?_)))))))))
     refine zab (zaO 8 hn48 rfl (zx (zJ (zH (zA (rL17 _ (zH (zA ?_))))))))
     cases h
     exact zk (.cell rfl tH ty26 (.tmp rfl (.tmp rfl .nil))) .nil ⟨rfl, rfl⟩
    refine zac (zi (zx (zh (oM rfl (zz h fun q49 h => oV (zaa rfl rfl q49) (oA rfl (zw ?_)))))))
    exact hL17 _ (g34.1, g34.2) h _ (ze 14 rfl rfl (za (j := 10) rfl hI zd) (.cons .here k4))
   refine zS (.v 0 (.v 2 (.v 3 (.v 4 (.v 5 (.v 6 (.v 7 (.alt 1 (.t 8 (.t 9 (.t 10 (.v 11 (.t 12 .nil))))) (.t 8 (.alt 1 (.t 9 (.t 10 (.v 11 (.t 12 .nil)))) (.t 9 (.t 1 (.t 10 (.v 11 (.t 12 .nil))))))))))))))) moOrd (by kernel_rfl) ?_
   refine zo rfl (zag rfl zhP zj6) (rvm rfl rfl (zo rfl (zW rfl GMod.f3 ziR rfl (z := a_m.types)) (zo rfl (zf ty23 rfl) (rvm rfl rfl (zb h fun y36 hy36 h => zo rfl (zaz (l := a_m.types) rfl hI rfl sl23 hy36) (zo rfl (zf ty3 rfl) (zb h fun y37 hy37 h => ?_)))))))
   refine zal h fun q41 h => zbv ?_ ?_
   ·refine zR rfl rfl (zM (R := appv g16.1 (q16.2.1.roots)) ty23 rfl .here isvT1 (zR rfl rfl (zN (zf5 fuel hy37) hT (s3 rfl rfl rfl) (.cons tI (.cons tI .nil)) (fun R H' hR => ?_))))
    obtain ⟨v38, rfl, rfl⟩ := hR
    exact zR rfl rfl (zY (l := ([y37.1] : (List Int))) el23 (.cons rfl hI .nil) rfl rfl (zR rfl rfl (zaZ (l := q16.2.1.roots) (m := ([y37.1] : (List Int))) zbk rfl hI rfl zF (.there tI) q41 fun t40 => zo rfl (zag rfl zhP zj6) (zR rfl rfl (zm (y' := ((q16.2.1.name, q16.2.1.names, (TList.mk t40 (q16.2.1.roots ++ ([y37.1] : (List Int)))), q16.2.1.types) : (Str × (List Str) × (TList Int) × (List GTyp)))) ty23 rfl rfl isvT2 (.there tI) rfl (zab (hJ35 _ (t40, v38) h _ (ze 12 rfl rfl zd (.cons .here k4)))))))))
   refine zR rfl rfl (zN (zf5 fuel hy37) hT (s3 rfl rfl rfl) (.cons tI (.cons tI .nil)) (fun R H' hR => ?_))
   obtain ⟨v42, rfl, rfl⟩ := hR
   refine zbv ?_ ?_
   ·exact zR rfl rfl (zM (R := appv g16.1 (q16.2.1.roots)) ty23 rfl tI isvT1 (zR rfl rfl (zY (l := ([y37.1] : (List Int))) el23 (.cons rfl hI .nil) rfl rfl (zR rfl rfl (zaZ (l := q16.2.1.roots) (m := ([y37.1] : (List Int))) zbk rfl hI rfl zF (.there tI) q41 fun t44 => zo rfl (zag rfl zhP zj6) (zR rfl rfl (zm (y' := ((q16.2.1.name, q16.2.1.names, (TList.mk t44 (q16.2.1.roots ++ ([y37.1] : (List Int)))), q16.2.1.types) : (Str × (List Str) × (TList Int) × (List GTyp)))) ty23 rfl rfl isvT2 (.there tI) rfl (zab (hJ35 _ (t44, v42) h _ (ze 12 rfl rfl zd (.cons .here k4)))))))))))
   exact zR rfl rfl (zY (l := ([y37.1] : (List Int))) el23 (.cons rfl hI .nil) rfl rfl (zR rfl rfl (zM (R := appv g16.1 (q16.2.1.roots)) ty23 rfl tI isvT1 (zR rfl rfl (zaZ (l := q16.2.1.roots) (m := ([y37.1] : (List Int))) zbk rfl hI rfl zF (.there tI) q41 fun t46 => zo rfl (zag rfl zhP zj6) (zR rfl rfl (zm (y' := ((q16.2.1.name, q16.2.1.names, (TList.mk t46 (q16.2.1.roots ++ ([y37.1] : (List Int)))), q16.2.1.types) : (Str × (List Str) × (TList Int) × (List GTyp)))) ty23 rfl rfl isvT2 (.there tI) rfl (zab (hJ35 _ (t46, v42) h _ (ze 12 rfl rfl zd (.cons .here k4)))))))))))
  refine zad (zU (eL17 _ _ (zE (zx (wsr (oM rfl (oV (zu rfl) (oV (zag rfl zbE zcD) ?_))))))))
  refine oT (zM (R := vecv g16.2 (q16.2.2.l.length)) ty24 rfl tI isvV1 (oV (zag rfl zm8 zeM) (zG (zdj 64 (.there tI) rfl (by first | rfl | simp)) ?_)))
  refine oT (zm (y' := ((q16.2.1.name, q16.2.1.names, (TList.mk g16.1 q16.2.1.roots), q16.2.2.l) : (Str × (List Str) × (TList Int) × (List GTyp)))) ty24 rfl rfl hI .here rfl (rnf (wsr (oT (zM (y := ((q16.2.1.name, q16.2.1.names, (TList.mk g16.1 q16.2.1.roots), q16.2.2.l) : (Str × (List Str) × (TList Int) × (List GTyp)))) (R := isv (((q16.2.1.name, q16.2.1.names, (TList.mk g16.1 q16.2.1.roots), q16.2.2.l)) : ((Str × (List Str) × (TList Int) × (List GTyp))))) ty26 rfl .here (by exact hI) ?_)))))
  refine zG (zO (R' := isv ((GTab.mk q16.2.1.name q16.2.1.names q16.2.1.roots q16.2.2.l))) 66 rfl (Cv.isv rfl fun S => (fun cs h => GTab.cv (x := (GTab.mk q16.2.1.name q16.2.1.names q16.2.1.roots q16.2.2.l)) cs (((Cv.pair Cv.id (Cv.pair Cv.id (Cv.pair Cv.tl Cv.id))) : Cv S ((q16.2.1.name, q16.2.1.names, (TList.mk g16.1 q16.2.1.roots), q16.2.2.l) : (Str × (List Str) × (TList Int) × (List GTyp))) (GTab.to (GTab.mk q16.2.1.name q16.2.1.names q16.2.1.roots q16.2.2.l))) cs h)))) (oT (zm (y' := ((GTab.mk q16.2.1.name q16.2.1.names q16.2.1.roots q16.2.2.l) : GTab)) ty26 rfl rfl hI (.there tI) rfl (oA rfl (oA rfl (rnf (zJ ?_))))))
  cases h
  exact zk (.cell rfl .here ty26 (.tmp rfl (.tmp rfl .nil))) .nil ⟨rfl, rfl⟩
 refine zS (.v 0 (.v 1 (.v 2 (.v 3 (.alt 4 (.v 5 (.t 6 (.t 7 .nil))) (.t 6 (.t 4 (.v 5 (.t 7 .nil))))))))) moOrd (by kernel_rfl) ?_
 refine zo rfl (zW rfl GMod.f0 zn4 rfl (z := a_m.name)) (zo rfl (zf ty9 rfl) (zo rfl (zW rfl GMod.f2 zd0 rfl (z := a_m.names)) (zo rfl (zf ty22 rfl) (zal h fun q8 h => zbv ?_ ?_))))
 ·exact zR rfl rfl (zgQ (m := a_m.names) zks rfl rfl hI q8 fun t7 => zo rfl (zaC (z := ((a_m.name, (([] : (List Str)) ++ a_m.names), (TList.mk none ([] : (List Int))), ([] : (List GTyp))) : (Str × (List Str) × (TList Int) × (List GTyp)))) rfl bu26 zjP (.cons zlg znb rfl hI (.cons zll znC rfl zF .nil))) (zR rfl rfl (zaf _ zjP fun b9 => zbg (zaI) (zbg (zaI) (zR rfl rfl (zm (y' := ((a_m.name, (([] : (List Str)) ++ a_m.names), (TList.mk none ([] : (List Int))), ([] : (List GTyp))) : (Str × (List Str) × (TList Int) × (List GTyp)))) ty26 rfl rfl hI tI rfl (zab (hJ6 _ (b9, none) h _ (ze 7 rfl rfl (za (j := 9) rfl hI zd) (.cons .here (.cons .here (.cons tI (.cons tI (.cons tI .nil))))))))))))))
 exact zR rfl rfl (zaf _ zjP fun b12 => zbg (zaI) (zR rfl rfl (zgQ (m := a_m.names) zks rfl rfl hI q8 fun t14 => zo rfl (zaC (z := ((a_m.name, (([] : (List Str)) ++ a_m.names), (TList.mk none ([] : (List Int))), ([] : (List GTyp))) : (Str × (List Str) × (TList Int) × (List GTyp)))) rfl bu26 zjP (.cons zlg znb rfl hI (.cons zll znC rfl zF .nil))) (zbg (zaI) (zR rfl rfl (zm (y' := ((a_m.name, (([] : (List Str)) ++ a_m.names), (TList.mk none ([] : (List Int))), ([] : (List GTyp))) : (Str × (List Str) × (TList Int) × (List GTyp)))) ty26 rfl rfl hI (.there tI) rfl (zab (hJ6 _ (b12, none) h _ (ze 7 rfl rfl (za (j := 9) rfl hI zd) (.cons .here (.cons .here (.cons tI (.cons tI (.cons tI .nil))))))))))))))


theorem zfF : ∀ {za0 : Str} {r : GTab × Bool}, zbF za0 = some r → Ctr Tryz.prog 11 [isv (za0)] [] (fun R H => R = oneOf [isv (r.1), isv (r.2)] ∧ H = []) := by
 intro za0 r h
 unfold zbF at h
 refine zp Tryz.func11 rfl fun w0 S0 hT => wsr (oT (zaf _ ze26 fun b1 => oA rfl (rnf (zj (wsr (oM rfl (oV (zdJ st9 rfl) ?_)))))))
 refine oV (zbu rfl rfl) (rnf (zg h rfl (fun _ h => ?_) (fun _ h => ?_)))
 ·refine wsr (oV (zaC (z := (GTab.mk (Str.mk []) ([] : (List Str)) ([] : (List Int)) ([] : (List GTyp)))) rfl bu26 ze26 .nil) (oT (zm (y' := ((GTab.mk (Str.mk []) ([] : (List Str)) ([] : (List Int)) ([] : (List GTyp))) : GTab)) ty26 rfl rfl hI .here rfl (oA rfl (rnf (zJ (zA ?_)))))))
  cases h
  exact zk (.cell rfl .here ty26 (.tmp rfl .nil)) .nil ⟨rfl, rfl⟩
 refine wkf (wsr (oM rfl (zb h fun y2 hy2 h => oT (zy (zln hy2) hT (s1 rfl) .nil (oM rfl (oV (zaB rfl rfl) (oV (zaB rfl rfl) (oV (zaB rfl rfl) ?_))))))))
 refine oT (zaf _ ze73 fun b3 => oT (zm (y' := (y2.1 : GMod)) ty73 rfl rfl hI .here rfl (zG (zaq 4 .here rfl) (oA rfl (oA rfl (rnf (zj (wsr (oM rfl ?_)))))))))
 refine oV (zbo rfl rfl) (rnf (zg h rfl (fun _ h => ?_) (fun _ h => ?_)))
 ·refine wsr (oV (zaC (z := (GTab.mk (Str.mk []) ([] : (List Str)) ([] : (List Int)) ([] : (List GTyp)))) rfl bu26 ze26 .nil) (oT (zm (y' := ((GTab.mk (Str.mk []) ([] : (List Str)) ([] : (List Int)) ([] : (List GTyp))) : GTab)) ty26 rfl rfl hI .here rfl (oA rfl (rnf (zJ (zA ?_)))))))
  cases h
  exact zk (.cell rfl .here ty26 (.tmp rfl .nil)) .nil ⟨rfl, rfl⟩
 refine wkf (wsr (oV (zf ty73 rfl) (zb h fun y4 hy4 h => oT (zy (zlt hy4) hT (s1 rfl) .nil (oM rfl (oV (zaB rfl rfl) (oV (zaB rfl rfl) (oV (zaB rfl rfl) ?_))))))))
 refine oT (zaf _ ze26 fun b5 => oT (zm (y' := (y4.1 : GTab)) ty26 rfl rfl hI .here rfl (zG (zaq 7 .here rfl) (oA rfl (oA rfl (rnf (zj (zS (.v 0 (.v 1 (.v 2 (.v 3 (.v 4 (.v 5 (.v 6 (.v 7 (.v 8 (.t 9 (.v 10 .nil))))))))))) moOrd (by kernel_rfl) ?_))))))))
 refine zo rfl (zf ty26 rfl) (rvm rfl rfl (zo rfl (zao rfl rfl) (rvm rfl rfl (zc8 (jb 37) je .nil h 5 rfl (fun q6 g6 h => ?_) (fun J7 h hJ7 => ?_)))))
 ·refine zR rfl rfl (zm (y' := (y4.1 : GTab)) ty26 rfl rfl hI .here rfl (zo rfl (zaP rfl) (zab (zx (zJ ?_)))))
  cases h
  exact zk (.cell rfl .here ty26 (.tmp rfl .nil)) .nil ⟨rfl, rfl⟩
 refine zaA (j := 32) h rfl (fun g8 h => ?_) (fun g8 h => ?_)
 ·exact rvt 32 rfl rfl rfl g8 (zW rfl GTab.f3 zeM rfl (z := y4.1.types)) (rvt 32 rfl rfl rfl g8 (zf ty24 rfl) (rvt 32 rfl rfl rfl g8 (zaR (l := y4.1.types) rfl hI sl24) (rvt 32 rfl rfl rfl g8 (ziQ rfl rfl) (zo rfl (zs rfl g8 rfl) (hJ7 _ () h _ (jk 5 37 rfl rfl rfl))))))
 exact rpv 32 rfl rfl rfl g8 (rpv 32 rfl rfl rfl g8 (rpv 32 rfl rfl rfl g8 (rpv 32 rfl rfl rfl g8 (zo rfl (zr rfl g8 rfl) (hJ7 _ () h _ (jk 5 37 rfl rfl rfl))))))

end Go.Proofs.Q


namespace Go.Proofs.Q
open Go.Sy
set_option maxRecDepth 4000
theorem zfO : ∀ {a_t : GTab} {a_i : Int} {r : GTyp}, zco a_t a_i = some r → Ctr Tryz.prog 47 [isv (a_t), isv (a_i)] [] (fun R H => R = oneOf [isv (r)] ∧ H = []) := by
 intro a_t a_i r h
 unfold zco at h
 refine zp Tryz.func47 rfl fun w0 S0 hT => wsr (oT (zaV (y := a_t) rfl hI (oT (zaf _ ze87 fun b1 => rnf (zj (wsr (oM rfl (oV (zaj rfl rfl) ?_))))))))
 refine oM rfl (zau (jb 13) je .nil h 6 rfl (fun q2 g2 h => ?_) (fun J3 h hJ3 => ?_))
 ·refine rnf (zg h rfl (fun _ h => ?_) (fun _ h => ?_))
  ·refine wsr (oV (zaC (z := (GTyp.mk (0 : Int) ([] : (List Tag)) (GCon.mk false false false false (0 : Int) (0 : Int)) ([] : (List GItem)) ([] : (List GFld)) (0 : Int) false (0 : Int))) rfl bu87 ze87 .nil) (oT (zm (y' := ((GTyp.mk (0 : Int) ([] : (List Tag)) (GCon.mk false false false false (0 : Int) (0 : Int)) ([] : (List GItem)) ([] : (List GFld)) (0 : Int) false (0 : Int)) : GTyp)) ty87 rfl rfl hI .here rfl (rnf (zJ (zA ?_))))))
   cases h
   exact zk (.cell rfl .here ty87 .nil) .nil ⟨rfl, rfl⟩
  refine wkf (wsr (oV (zW rfl GTab.f3 zeM rfl (z := a_t.types)) (oV (zf ty24 rfl) (oM rfl (zb h fun y5 hy5 h => oV (zaz (l := a_t.types) rfl hI rfl sl24 hy5) (oV (zf ty87 rfl) (oT (zm (y' := (y5 : GTyp)) ty87 rfl rfl hI .here rfl ?_))))))))
  refine rnf (zJ ?_)
  cases h
  exact zk (.cell rfl .here ty87 .nil) .nil ⟨rfl, rfl⟩
 refine zB (j := 7) h rfl (fun g4 h => ?_) (fun g4 h => ?_)
 ·exact oP 7 rfl rfl g4 (oP 7 rfl rfl g4 (oP 7 rfl rfl g4 (oP 7 rfl rfl g4 (oP 7 rfl rfl g4 (oV (zs rfl g4 rfl) (hJ3 _ () h _ (jk 6 13 rfl rfl rfl)))))))
 exact oK 7 rfl rfl rfl g4 (zt rfl) (oK 7 rfl rfl rfl g4 (zW rfl GTab.f3 zeM rfl (z := a_t.types)) (oK 7 rfl rfl rfl g4 (zf ty24 rfl) (oK 7 rfl rfl rfl g4 (zaR (l := a_t.types) rfl hI sl24) (oK 7 rfl rfl rfl g4 (zeV rfl rfl) (oV (zr rfl g4 rfl) (hJ3 _ () h _ (jk 6 13 rfl rfl rfl)))))))


theorem zcE : ∀ {zeb : Int} {a_to : Int} {r : (List Int)}, zbP zeb a_to = some r → Ctr Tryz.prog 48 [isv (zeb), isv (a_to)] [] (fun R H => ∃ u1 : Vt, R = oneOf [vecv u1 ((r).length)] ∧ H = [vecE u1 (r)]) := by
 intro zeb a_to r h
 unfold zbP at h
 refine zp Tryz.func48 rfl fun w0 S0 hT => wsr (oA rfl (zG (zdo (α := Int)) (zG (zO 4 rfl nilvV) (rnf (wsr (oA rfl (zG (zdo (α := Int)) ?_)))))))
 refine zG (zO 5 rfl nilvV) (rnf (zj (wsr (oM rfl (oA rfl (rnf (zq (zaN (ι := (List Int) × Int) (γ := Vt) (fun q3 g3 => [(5, vecv g3 (q3.1.length)), (6, isv (q3.2))]) (fun q3 g3 => [vecE g3 (q3.1 : List Int)]) h (none) (za (j := 5) rfl (vecvE (by first | rfl | simp)) (za (j := 6) rfl hI zd)) k1 (fun L4 q3 g3 Q13 h hL4 eL4 rL4 => ?_)))))))))
 refine zj (wsr (oM rfl (oM rfl (oV (zaj rfl rfl) (rnf (zg h rfl (fun _ h => ?_) (fun _ h => ?_)))))))
 ·refine wkf (zj (zq (zh (oM rfl (oM rfl (oT (zY (l := ([q3.2] : (List Int))) el23 (.cons rfl hI .nil) rfl rfl (zal h fun q11 h => oT (zfv (m := ([q3.2] : (List Int))) zbk rfl rfl zF .here (by first | rfl | simp) q11 fun v10 => ?_)))))))))
  refine oA rfl (zw (zi (zx (zh (oM rfl (zz h fun q12 h => oV (zaa rfl rfl q12) (oA rfl ?_)))))))
  exact zw (hL4 _ (v10) h _ (ze 13 rfl rfl (za (j := 5) rfl (vecvE (by first | rfl | simp)) (za (j := 6) rfl hI zd)) k2))
 refine zad (zU (eL4 _ _ (zE (zx (wsr (oM rfl (oA rfl (rnf ?_))))))))
 refine zJ (zk (.as rfl (vecvE (by first | rfl | simp)) .nil) k1 ?_)
 cases h
 exact ⟨g3, rfl, rfl⟩


theorem zgd : ∀ {a_x : GTyp} {a_a1 : (List Tag)} {zkt : Nat} {t_a_a11 : Tok} {r : (List Tag)}, zbI a_x a_a1 = some r → Ctr Tryz.prog 117 [isv (a_x), ptrv zkt (Fld.id (TList Tag))] [boxE zkt ((TList.mk t_a_a11 a_a1) : (TList Tag)), tokE t_a_a11] (fun R H => ∃ u1 : Tok, R = oneOf [] ∧ H = [boxE zkt ((TList.mk u1 r)), tokE u1]) := by
 intro a_x a_a1 zkt t_a_a11 r h
 unfold zbI at h
 refine zp Tryz.func117 rfl fun w0 S0 hT => wsr (oT (zaV (y := a_x) rfl hI (rnf (wsr (oV (zW rfl GTyp.f1 zeQ rfl (z := a_x.tags)) (oV (zf ty78 rfl) (oV (zaR (l := a_x.tags) rfl hI sl78) (oV (zbu rfl rfl) ?_))))))))
 refine rnf (zg h rfl (fun _ h => ?_) (fun _ h => ?_))
 ·refine zS (.v 1 (.v 2 (.v 3 (.v 4 (.alt 0 (.t 5 (.t 6 (.t 7 .nil))) (.t 5 (.t 0 (.t 6 (.t 7 .nil))))))))) moOrd (by kernel_rfl) ?_
  refine zo rfl (zW rfl GTyp.f1 zeQ rfl (z := a_x.tags)) (zo rfl (zf ty78 rfl) (zb h fun y2 hy2 h => zo rfl (zaz (l := a_x.tags) rfl hI rfl sl78 hy2) (zo rfl (zf ty31 rfl) (zal h fun q5 h => zbv ?_ ?_))))
  ·refine zR rfl rfl (zM (R := appv t_a_a11 (a_a1)) ty78 rfl .here isvT1 (zR rfl rfl (zY (l := ([y2] : (List Tag))) el78 (.cons rfl hI .nil) rfl rfl (zR rfl rfl (zaZ (l := a_a1) (m := ([y2] : (List Tag))) zfw rfl hI rfl zF tH q5 fun t4 => zR rfl rfl (zm (y' := ((TList.mk t4 (a_a1 ++ ([y2] : (List Tag)))) : (TList Tag))) ty78 rfl rfl isvT2 tH rfl (zab (zan .nil k2 ?_))))))))
   cases h
   exact ⟨t4, rfl, rfl⟩
  refine zR rfl rfl (zY (l := ([y2] : (List Tag))) el78 (.cons rfl hI .nil) rfl rfl (zR rfl rfl (zM (R := appv t_a_a11 (a_a1)) ty78 rfl .here isvT1 (zR rfl rfl (zaZ (l := a_a1) (m := ([y2] : (List Tag))) zfw rfl hI rfl zF tH q5 fun t7 => zR rfl rfl (zm (y' := ((TList.mk t7 (a_a1 ++ ([y2] : (List Tag)))) : (TList Tag))) ty78 rfl rfl isvT2 tH rfl (zab (zan .nil k2 ?_))))))))
  cases h
  exact ⟨t7, rfl, rfl⟩
 refine zac (zan .nil k2 ?_)
 cases h
 exact ⟨t_a_a11, rfl, rfl⟩


def zdC (f' : GTys → Int → Int → (List Tag) → Option (GTys × Int × (List Tag))) : Prop :=
 ∀ {a_t : GTys} {zeU : Int} {zdQ : Int} {zeW : (List Tag)} {zfA : Nat} {zd9 : Nat} {zdu : Nat} {t_a_do__01 : Tok} {r : GTys × Int × (List Tag)}, f' a_t zeU zdQ zeW = some r → Ctr Tryz.prog 116 [ptrv zfA (Fld.id GTys), isv (zeU), ptrv zd9 (Fld.id Int), clov 117 [ptrv zdu (Fld.id (TList Tag))]] [boxE zfA (a_t : GTys), boxE zd9 (zdQ : Int), boxE zdu ((TList.mk t_a_do__01 zeW) : (TList Tag)), tokE t_a_do__01] (fun R H => ∃ u1 : Tok, R = oneOf [] ∧ H = [boxE zfA (r.1), boxE zd9 (r.2.1), boxE zdu ((TList.mk u1 r.2.2)), tokE u1])
theorem zgS {zcU : GTys → Int → Int → (List Tag) → Option (GTys × Int × (List Tag))} (zhg : zdC zcU) : ∀ {a_t : GTys} {zeU : Int} {zdQ : Int} {zeW : (List Tag)} {zfA : Nat} {zd9 : Nat} {zdu : Nat} {t_a_do__01 : Tok} {r : GTys × Int × (List Tag)}, zbj zcU a_t zeU zdQ zeW = some r → Ctr Tryz.prog 116 [ptrv zfA (Fld.id GTys), isv (zeU), ptrv zd9 (Fld.id Int), clov 117 [ptrv zdu (Fld.id (TList Tag))]] [boxE zfA (a_t : GTys), boxE zd9 (zdQ : Int), boxE zdu ((TList.mk t_a_do__01 zeW) : (TList Tag)), tokE t_a_do__01] (fun R H => ∃ u1 : Tok, R = oneOf [] ∧ H = [boxE zfA (r.1), boxE zd9 (r.2.1), boxE zdu ((TList.mk u1 r.2.2)), tokE u1]) := by
 intro a_t zeU zdQ zeW zfA zd9 zdu t_a_do__01 r h
 unfold zbj at h
 refine zp Tryz.func116 rfl fun w0 S0 hT => zj (wsr (oM rfl (oV (zaj rfl rfl) (oM rfl (zau (jb 21) je .nil h 8 rfl (fun q2 g2 h => ?_) (fun J3 h hJ3 => ?_))))))
 ·refine oM rfl (zau (jb 27) je .nil h 5 rfl (fun q5 g5 h => ?_) (fun J6 h hJ6 => ?_))
  ·refine rnf (zg h rfl (fun _ h => ?_) (fun _ h => ?_))
   ·refine zJ (zA (zk .nil k4 ?_))
    cases h
    exact ⟨t_a_do__01, rfl, rfl⟩
   refine wkf (wsr (oM rfl (oV (zu rfl) (oT (zM (R := isv (zdQ)) ty3 rfl tH hI (zz h fun q8 h => oV (zaF rfl rfl q8) (oV (zu rfl) (oT (zm (y' := ((zdQ - (1 : Int)) : Int)) ty3 rfl rfl hI tH rfl ?_)))))))))
   refine rnf (wsr (oM rfl (oV (zu rfl) (oV (zag rfl GTys.f0 zj0) (oT (zM (R := isv (a_t.l)) ty24 rfl tH hI (oM rfl (zb h fun y9 hy9 h => oV (zaz (l := a_t.l) rfl hI rfl sl24 hy9) ?_))))))))
   refine oV (zf ty87 rfl) (oT (zaf _ ze87 fun b10 => oT (zm (y' := (y9 : GTyp)) ty87 rfl rfl hI .here rfl (zG (zaq 8 .here rfl) (rnf (wsr (oM rfl (oV (zf ty87 rfl) (zb h fun y11 hy11 h => ?_)))))))))
   refine oT (zea rfl (s1 rfl) (zgd hy11) hT (.cons tI (.cons tI .nil)) (fun R H' hR => ?_))
   obtain ⟨t12, rfl, rfl⟩ := hR
   refine rnf (zj (wsr (oV (zW rfl GTyp.f1 zeQ rfl (z := y9.tags)) (oV (zf ty78 rfl) (oV (zaR (l := y9.tags) rfl hI sl78) (oV (zbu rfl rfl) (rnf (zg h rfl (fun _ h => ?_) (fun _ h => ?_)))))))))
   ·refine zJ (zA (zk .nil (.cons (.there tI) (.cons tI k2)) ?_))
    cases h
    exact ⟨t12, rfl, rfl⟩
   refine wkf (wsr (oV (zW rfl GTyp.f4 zbA rfl (z := y9.fields)) (oV (zf ty85 rfl) (oV (zaR (l := y9.fields) rfl hI sl85) (oM rfl (rnf (zq (zaN (ι := Int × (List Tag) × Int × GTys) (γ := Tok) (fun q13 g13 => [(50, isv (q13.1))]) (fun q13 g13 => [boxE zdu ((TList.mk g13 q13.2.1) : (TList Tag)), tokE g13, boxE zd9 (q13.2.2.1 : Int), boxE zfA (q13.2.2.2 : GTys)]) h (t12) (za (j := 50) rfl hI zd) k4 (fun L14 q13 g13 Q25 h hL14 eL14 rL14 => ?_)))))))))
   refine wsr (oV (zaj rfl rfl) (rnf (zj (zg h rfl (fun _ h => ?_) (fun _ h => ?_)))))
   ·refine wkf (zj (zq (wsr (zb h fun y20 hy20 h => oV (zaz (l := y9.fields) rfl hI rfl sl85 hy20) (oV (zf ty92 rfl) (oT (zaf _ ze92 fun b21 => oT (zm (y' := (y20 : GFld)) ty92 rfl rfl hI .here rfl ?_))))))))
    refine zG (zaq 10 .here rfl) (rnf (zh (oM rfl (oV (zW rfl GFld.f1 zc9 rfl (z := y20.ty)) (oV (zf ty3 rfl) (oM rfl (oM rfl (zb h fun y22 hy22 h => ?_))))))))
    refine oT (zN (zhg hy22) hT (s4 rfl rfl rfl rfl) (.cons (.there tI) (.cons tI k2)) (fun R H' hR => ?_))
    obtain ⟨t23, rfl, rfl⟩ := hR
    exact zw (zi (zx (zh (zz h fun q24 h => oV (zaa rfl rfl q24) (oM rfl (zw (hL14 _ (t23) h _ (ze 14 rfl rfl (za (j := 50) rfl hI zd) (.cons tI (.cons tI (.cons tH k1)))))))))))
   refine zad (zU (eL14 _ _ (zE (zan .nil (.cons (.there tI) (.cons tI k2)) ?_))))
   cases h
   exact ⟨g13, rfl, rfl⟩
  refine zB (j := 22) h rfl (fun g7 h => ?_) (fun g7 h => ?_)
  ·exact oP 22 rfl rfl g7 (oP 22 rfl rfl g7 (oP 22 rfl rfl g7 (oP 22 rfl rfl g7 (oV (zs rfl g7 rfl) (hJ6 _ () h _ (ze 5 rfl rfl (za (j := 27) rfl hI zd) k4))))))
  exact oK 22 rfl rfl rfl g7 (zt rfl) (oK 22 rfl rfl rfl g7 (zu rfl) (zaD rfl rfl (dj := 22) rfl g7 (zM (R := isv (zdQ)) ty3 rfl tH hI (oK 22 rfl rfl rfl g7 (zao rfl rfl) (oV (zr rfl g7 rfl) (hJ6 _ () h _ (ze 5 rfl rfl (za (j := 27) rfl hI zd) k4)))))))
 refine zB (j := 13) h rfl (fun g4 h => ?_) (fun g4 h => ?_)
 ·exact oP 13 rfl rfl g4 (oP 13 rfl rfl g4 (oP 13 rfl rfl g4 (oP 13 rfl rfl g4 (oP 13 rfl rfl g4 (oP 13 rfl rfl g4 (oP 13 rfl rfl g4 (oV (zs rfl g4 rfl) (hJ3 _ () h _ (ze 8 rfl rfl (za (j := 21) rfl hI zd) k4)))))))))
 exact oK 13 rfl rfl rfl g4 (zt rfl) (oK 13 rfl rfl rfl g4 (zt rfl) (oK 13 rfl rfl rfl g4 (zu rfl) (oK 13 rfl rfl rfl g4 (zag rfl GTys.f0 zj0) (zaD rfl rfl (dj := 13) rfl g4 (zM (R := isv (a_t.l)) ty24 rfl .here hI (oK 13 rfl rfl rfl g4 (zaR (l := a_t.l) rfl hI sl24) (oK 13 rfl rfl rfl g4 (zeV rfl rfl) (oV (zr rfl g4 rfl) (hJ3 _ () h _ (ze 8 rfl rfl (za (j := 21) rfl hI zd) k4))))))))))

theorem zdV : ∀ n, zdC (zbX n)
 | 0 => fun h => (by cases h)
 | n + 1 => zgS (zdV n)
theorem zhh (n : Nat) : zdC (zbX n) := (zdV n)

theorem zgF : ∀ {a_t : GTys} {zeU : Int} {zfA : Nat} {r : (List Tag) × GTys}, zcY a_t zeU = some r → Ctr Tryz.prog 78 [ptrv zfA (Fld.id GTys), isv (zeU)] [boxE zfA (a_t : GTys)] (fun R H => R = oneOf [isv (r.1)] ∧ H = [boxE zfA (r.2)]) := by
 intro a_t zeU zfA r h
 unfold zcY at h
 refine zp Tryz.func78 rfl fun w0 S0 hT => wsr (oA rfl (rnf (wsr (oT (zaf _ zoW fun b1 => zG (zaI) (rnf (wsr ?_)))))))
 refine oT (zaf _ ze3 fun b3 => oT (zm (y' := ((300 : Int) : Int)) ty3 rfl rfl hI .here rfl (rnf (wsr (oM rfl (oM rfl (oV (zhu (s1 rfl)) (zb h fun y4 hy4 h => oT (zN (zhh fuel hy4) hT (s4 rfl rfl rfl rfl) (.cons (.there tI) (.cons .here (.cons tH k1))) (fun R H' hR => ?_))))))))))
 obtain ⟨t5, rfl, rfl⟩ := hR
 refine rnf (wsr (oT (zM (R := appv t5 (y4.2.2)) ty78 rfl tI isvT1 (oA rfl (rnf (zJ ?_))))))
 cases h
 exact zk (.as rfl zF .nil) k1 ⟨rfl, rfl⟩


theorem zja : ∀ {a_t : GTab} {a_i : Int} {r : (List Tag)}, zd6 a_t a_i = some r → Ctr Tryz.prog 41 [isv (a_t), isv (a_i)] [] (fun R H => R = oneOf [isv (r)] ∧ H = []) := by
 intro a_t a_i r h
 unfold zd6 at h
 refine zp Tryz.func41 rfl fun w0 S0 hT => wsr (oT (zaV (y := a_t) rfl hI (oA rfl (rnf (wsr (oV (zW rfl GTab.f3 zeM rfl (z := a_t.types)) (oV (zf ty24 rfl) (oV (zaC (z := (GTys.mk a_t.types)) rfl bu144 ze144 (.cons GTys.f0 zj0 rfl hI .nil)) ?_))))))))
 refine oT (zkf (y := (GTys.mk a_t.types)) rfl hI fun b1 => oA rfl (rnf (wsr (oM rfl (oM rfl (zb h fun y2 hy2 h => oT (zy (zgF hy2) hT (s2 rfl rfl) k1 (oA rfl ?_))))))))
 refine rnf (zJ ?_)
 cases h
 exact zk (.tmp rfl .nil) .nil ⟨rfl, rfl⟩


theorem zgT : ∀ {a_a : Tag} {a_b : Tag} {r : Bool}, zeo a_a a_b = some r → Ctr Tryz.prog 42 [isv (a_a), isv (a_b)] [] (fun R H => R = oneOf [isv (r)] ∧ H = []) := by
 intro a_a a_b r h
 unfold zeo at h
 refine zp Tryz.func42 rfl fun w0 S0 hT => wsr (oT (zaV (y := a_a) rfl hI (oT (zaV (y := a_b) rfl hI (oA rfl (rnf (zj (wsr (oV (zW rfl Tag.f0 zgw rfl (z := a_a.cls)) ?_)))))))))
 refine oV (zf ty3 rfl) (oV (zW rfl Tag.f0 zgw rfl (z := a_b.cls)) (oV (zf ty3 rfl) (oV (zbo rfl rfl) (rnf (zg h rfl (fun _ h => ?_) (fun _ h => ?_))))))
 ·refine wsr (oV (zW rfl Tag.f0 zgw rfl (z := a_a.cls)) (oV (zf ty3 rfl) (oV (zW rfl Tag.f0 zgw rfl (z := a_b.cls)) (oV (zf ty3 rfl) (oV (zaj rfl rfl) (oA rfl (rnf (zJ ?_))))))))
  refine zA ?_
  cases h
  exact zk (.tmp rfl .nil) .nil ⟨rfl, rfl⟩
 refine wkf (wsr (oV (zW rfl Tag.f1 zer rfl (z := a_a.num)) (oV (zf ty3 rfl) (oV (zW rfl Tag.f1 zer rfl (z := a_b.num)) (oV (zf ty3 rfl) (oV (zaj rfl rfl) (oA rfl (rnf ?_))))))))
 refine zJ ?_
 cases h
 exact zk (.tmp rfl .nil) .nil ⟨rfl, rfl⟩


theorem zaG : ∀ {a_t : GTab} {a_i : Int} {r : Tag}, zdm a_t a_i = some r → Ctr Tryz.prog 13 [isv (a_t), isv (a_i)] [] (fun R H => R = oneOf [isv (r)] ∧ H = []) := by
 intro a_t a_i r h
 unfold zdm at h
 refine zp Tryz.func13 rfl fun w0 S0 hT => wsr (oT (zaV (y := a_t) rfl hI (oT (zaf _ ze31 fun b1 => rnf (wsr (oV (zf ty26 rfl) (oM rfl (zb h fun y2 hy2 h => ?_))))))))
 refine oT (zy (zja hy2) hT (s2 rfl rfl) .nil (oA rfl (rnf (zj (wsr (oM rfl (oV (zaR (l := y2) rfl hI sl78) (oV (zao rfl rfl) (rnf ?_)))))))))
 refine zg h rfl (fun _ h => ?_) (fun _ h => ?_)
 ·refine wsr (oV (zaC (z := (Tag.mk (0 : Int) (0 : Int))) rfl bu31 ze31 .nil) (oT (zm (y' := ((Tag.mk (0 : Int) (0 : Int)) : Tag)) ty31 rfl rfl hI .here rfl (rnf (zJ (zA ?_))))))
  cases h
  exact zk (.cell rfl .here ty31 .nil) .nil ⟨rfl, rfl⟩
 refine wkf (wsr (oM rfl (zb h fun y3 hy3 h => oV (zaz (l := y2) rfl hI rfl sl78 hy3) (oV (zf ty31 rfl) (oT (zaf _ ze31 fun b4 => oT (zm (y' := (y3 : Tag)) ty31 rfl rfl hI .here rfl (rnf ?_))))))))
 refine zj (wsr (oM rfl (oV (zaR (l := y2) rfl hI sl78) (oM rfl (rnf (zq (zaN (ι := Int × Tag) (γ := Unit) (fun q5 g5 => [(21, isv (q5.1))]) (fun q5 g5 => [boxE b4 (q5.2 : Tag)]) h () (za (j := 21) rfl hI zd) k1 (fun L6 q5 g5 Q19 h hL6 eL6 rL6 => wsr ?_))))))))
 refine oV (zaj rfl rfl) (rnf (zj (zg h rfl (fun _ h => ?_) (fun _ h => ?_))))
 ·refine wkf (zj (zdB (ι := Tag) (γ := Unit) (fun q13 g13 => []) (fun q13 g13 => [boxE b4 (q13 : Tag)]) k1 h (fun q13 g13 h => ?_) (fun J14 h hJ14 => ?_)))
  ·exact zh (zz h fun q18 h => oV (zaa rfl rfl q18) (oM rfl (zw (hL6 _ () h _ (ze 4 rfl rfl (za (j := 21) rfl hI zd) k2)))))
  refine zq (wsr (zb h fun y15 hy15 h => oV (zaz (l := y2) rfl hI rfl sl78 hy15) (oV (zf ty31 rfl) (oT (zaf _ ze31 fun b16 => oT (zm (y' := (y15 : Tag)) ty31 rfl rfl hI .here rfl (zG (zaq 8 .here rfl) (rnf ?_))))))))
  refine wsr (oV (zf ty31 rfl) (oT (zM (R := isv (q5.2)) ty31 rfl .here hI (zb h fun y17 hy17 h => oT (zy (zgT hy17) hT (s2 rfl rfl) .nil (rnf (zg h rfl (fun _ h => ?_) (fun _ h => ?_))))))))
  ·exact zh (oV (zf ty31 rfl) (oT (zm (y' := (y15 : Tag)) ty31 rfl rfl hI .here rfl (zw (zi (hJ14 _ () h _ (ze 8 rfl rfl zd k2)))))))
  exact zac (zi (hJ14 _ () h _ (ze 7 rfl rfl zd k2)))
 refine zad (zU (eL6 _ _ (zE (zx (wsr (oT (zM (R := isv (q5.2)) ty31 rfl .here hI (oT (zm (y' := (q5.2 : Tag)) ty31 rfl rfl hI tH rfl (rnf ?_))))))))))
 refine zJ ?_
 cases h
 exact zk (.cell rfl .here ty31 .nil) .nil ⟨rfl, rfl⟩


theorem zdb : ∀ {a_a : Int} {a_b : Int} {a_a2 : GTab} {a_a3 : GTyp} {r : Int}, zbf a_a a_b a_a2 a_a3 = some r → Ctr Tryz.prog 50 [isv (a_a), isv (a_b), immv (a_a2), immv (a_a3)] [] (fun R H => R = oneOf [isv (r)] ∧ H = []) := by
 intro a_a a_b a_a2 a_a3 r h
 unfold zbf at h
 refine zp Tryz.func50 rfl fun w0 S0 hT => wsr (oA rfl (rnf (zj (zdB (ι := Tag × Tag) (γ := Unit) (fun q1 g1 => [(7, immv (q1.1)), (8, immv (q1.2))]) (fun q1 g1 => []) .nil h (fun q1 g1 h => ?_) (fun J2 h hJ2 => ?_)))))
 ·refine zj (zq (wsr (oV (zf ty31 rfl) (oV (zf ty31 rfl) (zb h fun y25 hy25 h => oT (zy (zgT hy25) hT (s2 rfl rfl) .nil (oA rfl (rnf ?_))))))))
  refine zg h rfl (fun _ h => ?_) (fun _ h => ?_)
  ·refine wsr (oA rfl (rnf (zJ (zH (zA ?_)))))
   cases h
   exact zk (.tmp rfl .nil) .nil ⟨rfl, rfl⟩
  refine wsr (oV (zf ty31 rfl) (oV (zf ty31 rfl) (zb h fun y26 hy26 h => oT (zy (zgT hy26) hT (s2 rfl rfl) .nil (oA rfl (rnf (zg h rfl (fun _ h => ?_) (fun _ h => ?_))))))))
  ·refine wsr (oA rfl (rnf (zJ (zH (zA ?_)))))
   cases h
   exact zk (.tmp rfl .nil) .nil ⟨rfl, rfl⟩
  refine zac (zi (zx (wsr (oA rfl (rnf (zJ ?_))))))
  cases h
  exact zk (.tmp rfl .nil) .nil ⟨rfl, rfl⟩
 refine zS (.v 0 (.v 1 (.v 2 (.v 3 (.v 4 (.v 5 (.v 6 (.v 8 (.v 9 (.v 10 (.v 11 (.v 12 (.v 13 (.v 14 (.alt 7 (.alt 15 (.alt 16 (.t 17 (.t 18 (.t 19 .nil))) (.t 17 (.t 16 (.t 18 (.t 19 .nil))))) (.alt 16 (.alt 15 (.t 17 (.t 18 (.t 19 .nil))) (.t 17 (.t 15 (.t 18 (.t 19 .nil))))) (.t 17 (.alt 15 (.t 16 (.t 18 (.t 19 .nil))) (.t 16 (.t 15 (.t 18 (.t 19 .nil)))))))) (.alt 16 (.alt 7 (.alt 15 (.t 17 (.t 18 (.t 19 .nil))) (.t 17 (.t 15 (.t 18 (.t 19 .nil))))) (.t 17 (.t 7 (.t 15 (.t 18 (.t 19 .nil)))))) (.t 17 (.alt 7 (.alt 15 (.t 16 (.t 18 (.t 19 .nil))) (.t 16 (.t 15 (.t 18 (.t 19 .nil))))) (.t 16 (.t 7 (.t 15 (.t 18 (.t 19 .nil))))))))))))))))))))))) moOrd (by kernel_rfl) ?_
 refine zo rfl (zf ty26 rfl) (zo rfl (zW rfl GTyp.f4 zbA rfl (z := a_a3.fields)) (zo rfl (zf ty85 rfl) (rvm rfl rfl (zb h fun y3 hy3 h => zo rfl (zaz (l := a_a3.fields) rfl hI rfl sl85 hy3) (zo rfl (zW rfl GFld.f1 zc9 rfl (z := y3.ty)) (zo rfl (zf ty3 rfl) (zo rfl (zf ty26 rfl) ?_)))))))
 refine zo rfl (zW rfl GTyp.f4 zbA rfl (z := a_a3.fields)) (zo rfl (zf ty85 rfl) (rvm rfl rfl (zb h fun y4 hy4 h => zo rfl (zaz (l := a_a3.fields) rfl hI rfl sl85 hy4) (zo rfl (zW rfl GFld.f1 zc9 rfl (z := y4.ty)) (zo rfl (zf ty3 rfl) (zb h fun y5 hy5 h => zb h fun y6 hy6 h => ?_))))))
 refine zbv ?_ (zbv ?_ ?_)
 ·refine zR rfl rfl (zy (zaG hy5) hT (s2 rfl rfl) .nil (zbv ?_ (zbv ?_ ?_)))
  ·refine zR rfl rfl (zy (zaG hy6) hT (s2 rfl rfl) .nil (zbv ?_ ?_))
   ·exact zR rfl rfl (zaf _ ze31 fun b7 => zR rfl rfl (zaf _ ze31 fun b8 => zR rfl rfl (zm (y' := (y5 : Tag)) ty31 rfl rfl hI tH rfl (zbg (zaq 7 .here rfl) (zR rfl rfl (zm (y' := (y6 : Tag)) ty31 rfl rfl hI .here rfl (zbg (zaq 8 .here rfl) (zab (hJ2 _ () h _ (ze 20 rfl rfl (za (j := 7) rfl hI (za (j := 8) rfl hI zd)) .nil))))))))))
   exact zR rfl rfl (zaf _ ze31 fun b9 => zR rfl rfl (zaf _ ze31 fun b10 => zR rfl rfl (zm (y' := (y5 : Tag)) ty31 rfl rfl hI .here rfl (zbg (zaq 7 .here rfl) (zR rfl rfl (zm (y' := (y6 : Tag)) ty31 rfl rfl hI .here rfl (zbg (zaq 8 .here rfl) (zab (hJ2 _ () h _ (ze 20 rfl rfl (za (j := 7) rfl hI (za (j := 8) rfl hI zd)) .nil))))))))))
  ·refine zR rfl rfl (zaf _ ze31 fun b11 => zbv ?_ ?_)
   ·exact zR rfl rfl (zy (zaG hy6) hT (s2 rfl rfl) .nil (zR rfl rfl (zaf _ ze31 fun b12 => zR rfl rfl (zm (y' := (y5 : Tag)) ty31 rfl rfl hI tH rfl (zbg (zaq 7 .here rfl) (zR rfl rfl (zm (y' := (y6 : Tag)) ty31 rfl rfl hI .here rfl (zbg (zaq 8 .here rfl) (zab (hJ2 _ () h _ (ze 20 rfl rfl (za (j := 7) rfl hI (za (j := 8) rfl hI zd)) .nil)))))))))))
   exact zR rfl rfl (zaf _ ze31 fun b13 => zR rfl rfl (zy (zaG hy6) hT (s2 rfl rfl) .nil (zR rfl rfl (zm (y' := (y5 : Tag)) ty31 rfl rfl hI tH rfl (zbg (zaq 7 .here rfl) (zR rfl rfl (zm (y' := (y6 : Tag)) ty31 rfl rfl hI .here rfl (zbg (zaq 8 .here rfl) (zab (hJ2 _ () h _ (ze 20 rfl rfl (za (j := 7) rfl hI (za (j := 8) rfl hI zd)) .nil)))))))))))
  refine zR rfl rfl (zaf _ ze31 fun b14 => zbv ?_ ?_)
  ·exact zR rfl rfl (zy (zaG hy6) hT (s2 rfl rfl) .nil (zR rfl rfl (zaf _ ze31 fun b15 => zR rfl rfl (zm (y' := (y5 : Tag)) ty31 rfl rfl hI .here rfl (zbg (zaq 7 .here rfl) (zR rfl rfl (zm (y' := (y6 : Tag)) ty31 rfl rfl hI .here rfl (zbg (zaq 8 .here rfl) (zab (hJ2 _ () h _ (ze 20 rfl rfl (za (j := 7) rfl hI (za (j := 8) rfl hI zd)) .nil)))))))))))
  exact zR rfl rfl (zaf _ ze31 fun b16 => zR rfl rfl (zy (zaG hy6) hT (s2 rfl rfl) .nil (zR rfl rfl (zm (y' := (y5 : Tag)) ty31 rfl rfl hI .here rfl (zbg (zaq 7 .here rfl) (zR rfl rfl (zm (y' := (y6 : Tag)) ty31 rfl rfl hI .here rfl (zbg (zaq 8 .here rfl) (zab (hJ2 _ () h _ (ze 20 rfl rfl (za (j := 7) rfl hI (za (j := 8) rfl hI zd)) .nil)))))))))))
 ·refine zR rfl rfl (zaf _ ze31 fun b17 => zbv ?_ ?_)
  ·refine zR rfl rfl (zy (zaG hy5) hT (s2 rfl rfl) .nil (zbv ?_ ?_))
   ·exact zR rfl rfl (zy (zaG hy6) hT (s2 rfl rfl) .nil (zR rfl rfl (zaf _ ze31 fun b18 => zR rfl rfl (zm (y' := (y5 : Tag)) ty31 rfl rfl hI tH rfl (zbg (zaq 7 .here rfl) (zR rfl rfl (zm (y' := (y6 : Tag)) ty31 rfl rfl hI .here rfl (zbg (zaq 8 .here rfl) (zab (hJ2 _ () h _ (ze 20 rfl rfl (za (j := 7) rfl hI (za (j := 8) rfl hI zd)) .nil)))))))))))
   exact zR rfl rfl (zaf _ ze31 fun b19 => zR rfl rfl (zy (zaG hy6) hT (s2 rfl rfl) .nil (zR rfl rfl (zm (y' := (y5 : Tag)) ty31 rfl rfl hI tH rfl (zbg (zaq 7 .here rfl) (zR rfl rfl (zm (y' := (y6 : Tag)) ty31 rfl rfl hI .here rfl (zbg (zaq 8 .here rfl) (zab (hJ2 _ () h _ (ze 20 rfl rfl (za (j := 7) rfl hI (za (j := 8) rfl hI zd)) .nil)))))))))))
  exact zR rfl rfl (zaf _ ze31 fun b20 => zR rfl rfl (zy (zaG hy5) hT (s2 rfl rfl) .nil (zR rfl rfl (zy (zaG hy6) hT (s2 rfl rfl) .nil (zR rfl rfl (zm (y' := (y5 : Tag)) ty31 rfl rfl hI tH rfl (zbg (zaq 7 .here rfl) (zR rfl rfl (zm (y' := (y6 : Tag)) ty31 rfl rfl hI .here rfl (zbg (zaq 8 .here rfl) (zab (hJ2 _ () h _ (ze 20 rfl rfl (za (j := 7) rfl hI (za (j := 8) rfl hI zd)) .nil)))))))))))))
 refine zR rfl rfl (zaf _ ze31 fun b21 => zbv ?_ ?_)
 ·refine zR rfl rfl (zy (zaG hy5) hT (s2 rfl rfl) .nil (zbv ?_ ?_))
  ·exact zR rfl rfl (zy (zaG hy6) hT (s2 rfl rfl) .nil (zR rfl rfl (zaf _ ze31 fun b22 => zR rfl rfl (zm (y' := (y5 : Tag)) ty31 rfl rfl hI .here rfl (zbg (zaq 7 .here rfl) (zR rfl rfl (zm (y' := (y6 : Tag)) ty31 rfl rfl hI .here rfl (zbg (zaq 8 .here rfl) (zab (hJ2 _ () h _ (ze 20 rfl rfl (za (j := 7) rfl hI (za (j := 8) rfl hI zd)) .nil)))))))))))
  exact zR rfl rfl (zaf _ ze31 fun b23 => zR rfl rfl (zy (zaG hy6) hT (s2 rfl rfl) .nil (zR rfl rfl (zm (y' := (y5 : Tag)) ty31 rfl rfl hI .here rfl (zbg (zaq 7 .here rfl) (zR rfl rfl (zm (y' := (y6 : Tag)) ty31 rfl rfl hI .here rfl (zbg (zaq 8 .here rfl) (zab (hJ2 _ () h _ (ze 20 rfl rfl (za (j := 7) rfl hI (za (j := 8) rfl hI zd)) .nil)))))))))))
 exact zR rfl rfl (zaf _ ze31 fun b24 => zR rfl rfl (zy (zaG hy5) hT (s2 rfl rfl) .nil (zR rfl rfl (zy (zaG hy6) hT (s2 rfl rfl) .nil (zR rfl rfl (zm (y' := (y5 : Tag)) ty31 rfl rfl hI .here rfl (zbg (zaq 7 .here rfl) (zR rfl rfl (zm (y' := (y6 : Tag)) ty31 rfl rfl hI .here rfl (zbg (zaq 8 .here rfl) (zab (hJ2 _ () h _ (ze 20 rfl rfl (za (j := 7) rfl hI (za (j := 8) rfl hI zd)) .nil)))))))))))))


theorem zci : ∀ {zae : (List Int)} {a_a : Int} {a_b : Int} {zT : GTab} {zaw : GTyp} {zD : Vt} {r : (List Int)}, zbc zae a_a a_b zT zaw = some r → Ctr Tryz.prog 156 [vecv zD (zae.length), isv (a_a), isv (a_b), clov 50 [immv (zT), immv (zaw)]] [vecE zD (zae : List Int)] (fun R H => R = oneOf [] ∧ H = [vecE zD (r)]) := by
 intro zae a_a a_b zT zaw zD r h
 unfold zbc at h
 refine zp Tryz.func156 rfl fun w0 S0 hT => wsr (oM rfl (zz h fun q1 h => oV (zaa rfl rfl q1) (oA rfl (rnf (zq (zaN (ι := (List Int) × Int) (γ := Unit) (fun q2 g2 => [(8, isv (q2.2)), (0, vecv zD (q2.1.length))]) (fun q2 g2 => [vecE zD (q2.1 : List Int)]) h () (za (j := 8) rfl hI (za (j := 0) rfl (vecvE (by first | rfl | simp)) zd)) k1 (fun L3 q2 g2 Q94 h hL3 eL3 rL3 => ?_)))))))
 refine zj (wsr (oM rfl (oM rfl (oV (zaj rfl rfl) (rnf (zg h rfl (fun _ h => ?_) (fun _ h => ?_)))))))
 ·refine wkf (zj (zq (wsr (oM rfl (oA rfl (rnf (zq (zaN (ι := (List Int) × Int) (γ := Unit) (fun q49 g49 => [(9, isv (q49.2)), (0, vecv zD (q49.1.length))]) (fun q49 g49 => [vecE zD (q49.1 : List Int)]) h () (za (j := 9) rfl hI (za (j := 0) rfl (vecvE (by first | rfl | simp)) zd)) k1 (fun L50 q49 g49 Q93 h hL50 eL50 rL50 => ?_)))))))))
  refine zj (zj (zgG 0 .here rfl (by first | rfl | simp) (fun o72 hn73 => ?_)))
  refine zS (.v 0 (.v 1 (.v 2 (.v 3 (.v 4 (.v 5 (.v 6 (.v 7 (.v 8 (.v 9 (.v 10 (.v 11 (.v 12 (.v 13 (.t 14 (.v 15 (.v 16 .nil))))))))))))))))) moOrd (by kernel_rfl) ?_
  refine rvm rfl rfl (rvm rfl rfl (zo rfl (zbu rfl rfl) (rvm rfl rfl (zc8 (jb 34) je .nil h 13 rfl (fun q74 g74 h => ?_) (fun J75 h hJ75 => ?_)))))
  ·refine zab (zde 0 hn73 rfl (zx (zg h rfl (fun _ h => ?_) (fun _ h => ?_))))
   ·refine wkf (zj (zq (zS (.v 0 (.v 1 (.v 2 (.v 3 (.v 4 (.v 5 (.v 6 (.v 7 (.v 8 (.v 10 (.v 11 (.v 12 (.alt 9 (.t 13 (.v 14 (.t 15 (.v 16 (.t 17 .nil))))) (.t 13 (.t 9 (.v 14 (.t 15 (.v 16 (.t 17 .nil))))))))))))))))))) moOrd (by kernel_rfl) ?_)))
    refine rvm rfl rfl (rvm rfl rfl (rvm rfl rfl (rvm rfl rfl (zz h fun q81 h => zo rfl (zaF rfl rfl q81) (rvm rfl rfl (rvm rfl rfl (zz h fun q82 h => ?_)))))))
    refine zo rfl (zaF rfl rfl q82) (zI h fun q83 h => zo rfl (zam (α := Int) sl23 rfl rfl q83.1 q83.2) (rvm rfl rfl (rvm rfl rfl (zI h fun q84 h => zo rfl (zam (α := Int) sl23 rfl rfl q84.1 q84.2) (zb h fun y85 hy85 h => zb h fun y86 hy86 h => ?_)))))
    refine zI h fun q87 h => zb h fun y88 hy88 h => zI h fun q89 h => zb h fun y90 hy90 h => zz h fun q91 h => zbv ?_ ?_
    ·refine zR rfl rfl (zat ty3 rfl .here hy85 ?_)
     refine zR rfl rfl (zat ty3 rfl .here hy86 ?_)
     refine zo rfl (zam (α := Int) sl23 rfl rfl q87.1 q87.2) (zR rfl rfl (zas ty3 rfl rfl .here hy88 (zo rfl (zam (α := Int) sl23 rfl rfl q89.1 q89.2) (zR rfl rfl (zas ty3 rfl rfl .here hy90 (zab (zi (zx (zh (oM rfl ?_))))))))))
     exact oV (zaF rfl rfl q91) (oA rfl (zw (hL50 _ () h _ (ze 28 rfl rfl (za (j := 9) rfl hI (za (j := 0) rfl (vecvE (by first | rfl | simp)) zd)) k1))))
    refine zR rfl rfl (zat ty3 rfl .here hy86 ?_)
    refine zR rfl rfl (zat ty3 rfl .here hy85 ?_)
    refine zo rfl (zam (α := Int) sl23 rfl rfl q87.1 q87.2) (zR rfl rfl (zas ty3 rfl rfl .here hy88 (zo rfl (zam (α := Int) sl23 rfl rfl q89.1 q89.2) (zR rfl rfl (zas ty3 rfl rfl .here hy90 (zab (zi (zx (zh (oM rfl ?_))))))))))
    exact oV (zaF rfl rfl q91) (oA rfl (zw (hL50 _ () h _ (ze 28 rfl rfl (za (j := 9) rfl hI (za (j := 0) rfl (vecvE (by first | rfl | simp)) zd)) k1))))
   refine zad (zU (eL50 _ _ (zE (zi (zx (zh (oM rfl (zz h fun q92 h => ?_))))))))
   exact oV (zaa rfl rfl q92) (oA rfl (zw (hL3 _ () h _ (ze 19 rfl rfl (za (j := 8) rfl hI (za (j := 0) rfl (vecvE (by first | rfl | simp)) zd)) k1))))
  refine zaA (j := 21) h rfl (fun g76 h => ?_) (fun g76 h => ?_)
  ·refine rvt 21 rfl rfl rfl g76 (zt rfl) (rvt 21 rfl rfl rfl g76 (zt rfl) (rvt 21 rfl rfl rfl g76 (zt rfl) (zb h fun y77 hy77 h => rvt 21 rfl rfl rfl g76 (zeS (α := Int) sl23 rfl rfl hy77) (rvt 21 rfl rfl rfl g76 (zeR ty3 rfl zcB) (rvt 21 rfl rfl rfl g76 (zt rfl) (rvt 21 rfl rfl rfl g76 (zt rfl) (zz h fun q78 h => ?_)))))))
   refine rvt 21 rfl rfl rfl g76 (zaF rfl rfl q78) (zb h fun y79 hy79 h => rvt 21 rfl rfl rfl g76 (zeS (α := Int) sl23 rfl rfl hy79) (rvt 21 rfl rfl rfl g76 (zeR ty3 rfl zcB) (zb h fun y80 hy80 h => zc2 rfl rfl rfl (dj := 21) rfl g76 (zea rfl (s2 rfl rfl) (zdb hy80) hT .nil (fun R H' hR => ?_)))))
   obtain ⟨rfl, rfl⟩ := hR
   exact rvt 21 rfl rfl rfl g76 (zaj rfl rfl) (zo rfl (zs rfl g76 rfl) (hJ75 _ () h _ (ji 13 34 rfl rfl rfl)))
  refine rpv 21 rfl rfl rfl g76 (rpv 21 rfl rfl rfl g76 (rpv 21 rfl rfl rfl g76 (rpv 21 rfl rfl rfl g76 (rpv 21 rfl rfl rfl g76 (rpv 21 rfl rfl rfl g76 (rpv 21 rfl rfl rfl g76 (rpv 21 rfl rfl rfl g76 (rpv 21 rfl rfl rfl g76 ?_))))))))
  exact rpv 21 rfl rfl rfl g76 (za4 rfl rfl (dj := 21) rfl g76 (rpv 21 rfl rfl rfl g76 (zo rfl (zr rfl g76 rfl) (hJ75 _ () h _ (ji 13 34 rfl rfl rfl)))))
 refine zad (zU (eL3 _ _ (zE (zan .nil k1 ?_))))
 cases h
 exact ⟨rfl, rfl⟩


theorem zbR : ∀ {zae : (List Int)} {a_a : Int} {a_b : Int} {a_n_ : Int} {zT : GTab} {zaw : GTyp} {zD : Vt} {r : (List Int)}, zba zae a_a a_b a_n_ zT zaw = some r → Ctr Tryz.prog 187 [vecv zD (zae.length), isv (a_a), isv (a_b), isv (a_n_), clov 50 [immv (zT), immv (zaw)]] [vecE zD (zae : List Int)] (fun R H => R = oneOf [] ∧ H = [vecE zD (r)]) := by
 intro zae a_a a_b a_n_ zT zaw zD r h
 unfold zba at h
 refine zp Tryz.func187 rfl fun w0 S0 hT => wsr (oA rfl (rnf (zq (zaN (ι := (List Int) × Int) (γ := Unit) (fun q1 g1 => [(10, isv (q1.2)), (0, vecv zD (q1.1.length))]) (fun q1 g1 => [vecE zD (q1.1 : List Int)]) h () (za (j := 10) rfl hI (za (j := 0) rfl (vecvE (by first | rfl | simp)) zd)) k1 (fun L2 q1 g1 Q42 h hL2 eL2 rL2 => ?_)))))
 refine zj (wsr (oM rfl (oM rfl (oV (zaj rfl rfl) (rnf (zg h rfl (fun _ h => ?_) (fun _ h => ?_)))))))
 ·refine wkf (zj (zq (zS (.v 0 (.v 1 (.v 2 (.v 3 (.v 4 (.v 5 (.v 6 (.v 7 (.v 8 (.v 9 (.v 10 (.v 11 (.v 12 (.v 14 (.v 15 (.v 16 (.v 17 (.v 18 (.alt 13 (.t 19 (.v 20 (.t 21 (.v 22 (.t 23 .nil))))) (.t 19 (.t 13 (.v 20 (.t 21 (.v 22 (.t 23 .nil))))))))))))))))))))))))) moOrd (by kernel_rfl) ?_)))
  refine rvm rfl rfl (rvm rfl rfl (rvm rfl rfl (zz h fun q29 h => zo rfl (zaa rfl rfl q29) (rvm rfl rfl (rvm rfl rfl (rvm rfl rfl (zz h fun q30 h => ?_)))))))
  refine zo rfl (zaa rfl rfl q30) (rvm rfl rfl (rvm rfl rfl (rvm rfl rfl (zz h fun q31 h => zo rfl (zaa rfl rfl q31) (zI h fun q32 h => zo rfl (zam (α := Int) sl23 rfl rfl q32.1 q32.2) (rvm rfl rfl ?_))))))
  refine rvm rfl rfl (rvm rfl rfl (zz h fun q33 h => zo rfl (zaa rfl rfl q33) (zI h fun q34 h => zo rfl (zam (α := Int) sl23 rfl rfl q34.1 q34.2) (zb h fun y35 hy35 h => zb h fun y36 hy36 h => zI h fun q37 h => ?_))))
  refine zb h fun y38 hy38 h => zI h fun q39 h => zb h fun y40 hy40 h => zz h fun q41 h => zbv ?_ ?_
  ·refine zR rfl rfl (zat ty3 rfl .here hy35 ?_)
   refine zR rfl rfl (zat ty3 rfl .here hy36 ?_)
   refine zo rfl (zam (α := Int) sl23 rfl rfl q37.1 q37.2) (zR rfl rfl (zas ty3 rfl rfl .here hy38 (zo rfl (zam (α := Int) sl23 rfl rfl q39.1 q39.2) (zR rfl rfl (zas ty3 rfl rfl .here hy40 (zab (zi (zx (zh (oM rfl ?_))))))))))
   exact oV (zaa rfl rfl q41) (oA rfl (zw (hL2 _ () h _ (ze 30 rfl rfl (za (j := 10) rfl hI (za (j := 0) rfl (vecvE (by first | rfl | simp)) zd)) k1))))
  refine zR rfl rfl (zat ty3 rfl .here hy36 ?_)
  refine zR rfl rfl (zat ty3 rfl .here hy35 ?_)
  refine zo rfl (zam (α := Int) sl23 rfl rfl q37.1 q37.2) (zR rfl rfl (zas ty3 rfl rfl .here hy38 (zo rfl (zam (α := Int) sl23 rfl rfl q39.1 q39.2) (zR rfl rfl (zas ty3 rfl rfl .here hy40 (zab (zi (zx (zh (oM rfl ?_))))))))))
  exact oV (zaa rfl rfl q41) (oA rfl (zw (hL2 _ () h _ (ze 30 rfl rfl (za (j := 10) rfl hI (za (j := 0) rfl (vecvE (by first | rfl | simp)) zd)) k1))))
 refine zad (zU (eL2 _ _ (zE (zan .nil k1 ?_))))
 cases h
 exact ⟨rfl, rfl⟩


theorem zfp : ∀ {zae : (List Int)} {a_a : Int} {a_m : Int} {a_b : Int} {zT : GTab} {zaw : GTyp} {zD : Vt} {r : (List Int)}, zcy zae a_a a_m a_b zT zaw = some r → Ctr Tryz.prog 177 [vecv zD (zae.length), isv (a_a), isv (a_m), isv (a_b), clov 50 [immv (zT), immv (zaw)]] [vecE zD (zae : List Int)] (fun R H => R = oneOf [] ∧ H = [vecE zD (r)]) := by
 intro zae a_a a_m a_b zT zaw zD r h
 unfold zcy at h
 refine zp Tryz.func177 rfl fun w0 S0 hT => wsr (oM rfl (oM rfl (zz h fun q1 h => oV (zaF rfl rfl q1) (oA rfl (rnf (wsr ?_))))))
 refine oM rfl (oM rfl (zz h fun q2 h => oV (zaF rfl rfl q2) (oA rfl (rnf (zj (zq (zaN (ι := (List Int) × Int × Int) (γ := Unit) (fun q3 g3 => [(10, isv (q3.2.1)), (11, isv (q3.2.2)), (0, vecv zD (q3.1.length))]) (fun q3 g3 => [vecE zD (q3.1 : List Int)]) h () (za (j := 10) rfl hI (za (j := 11) rfl hI (za (j := 0) rfl (vecvE (by first | rfl | simp)) zd))) k1 (fun L4 q3 g3 Q31 h hL4 eL4 rL4 => ?_))))))))
 refine zj (wsr (oM rfl (oM rfl (oV (zbo rfl rfl) (rnf (zg h rfl (fun _ h => ?_) (fun _ h => ?_)))))))
 ·refine wkf (zq (wsr (oM rfl (oM rfl (oV (zbu rfl rfl) (rnf (zg h rfl (fun _ h => ?_) (fun _ h => ?_))))))))
  ·refine wsr (oM rfl (oM rfl (oM rfl (zz h fun q18 h => oV (zaF rfl rfl q18) (oM rfl (oM rfl (oM rfl ?_)))))))
   refine zb h fun y19 hy19 h => oT (zy (zbR hy19) hT (.cons rfl (fun _ _ h => vecvE (by first | rfl | simp) _ _ h) (s4 rfl rfl rfl rfl)) k1 ?_)
   refine zI h fun q20 h => zG (zO 0 rfl (vecvE q20.symm)) (zG (zO 24 rfl (vecvE q20.symm)) (rnf (zh (oM rfl (oM rfl (zz h fun q21 h => oV (zaF rfl rfl q21) ?_))))))
   exact oA rfl (zw (zi (hL4 _ () h _ (ze 23 rfl rfl (za (j := 10) rfl hI (za (j := 11) rfl hI (za (j := 0) rfl (vecvE (by first | rfl | simp)) zd))) k1))))
  refine wsr (oM rfl (oM rfl (oM rfl (zz h fun q22 h => oV (zaF rfl rfl q22) (oM rfl (oM rfl (zz h fun q23 h => ?_)))))))
  refine oV (zaa rfl rfl q23) (oM rfl (zz h fun q24 h => oV (zaF rfl rfl q24) (oM rfl (oM rfl (zb h fun y25 hy25 h => oT (zy (zbR hy25) hT (.cons rfl (fun _ _ h => vecvE (by first | rfl | simp) _ _ h) (s4 rfl rfl rfl rfl)) k1 ?_))))))
  refine zI h fun q26 h => zG (zO 0 rfl (vecvE q26.symm)) (zG (zO 35 rfl (vecvE q26.symm)) (rnf (zh (oM rfl (oM rfl (zz h fun q27 h => oV (zaF rfl rfl q27) ?_))))))
  exact oA rfl (zw (zi (hL4 _ () h _ (ze 27 rfl rfl (za (j := 10) rfl hI (za (j := 11) rfl hI (za (j := 0) rfl (vecvE (by first | rfl | simp)) zd))) k1))))
 refine zad (zU (eL4 _ _ (zE (zx (zh (oM rfl (oM rfl (oM rfl ?_))))))))
 refine zz h fun q28 h => oV (zaF rfl rfl q28) (oM rfl (oM rfl (oM rfl (zb h fun y29 hy29 h => oT (zy (zbR hy29) hT (.cons rfl (fun _ _ h => vecvE (by first | rfl | simp) _ _ h) (s4 rfl rfl rfl rfl)) k1 ?_)))))
 refine zI h fun q30 h => zG (zO 0 rfl (vecvE q30.symm)) (zG (zO 50 rfl (vecvE q30.symm)) (zw (zan .nil k1 ?_)))
 cases h
 exact ⟨rfl, rfl⟩


def zb1 (f' : (List Int) → Int → Int → Int → GTab → GTyp → Option ((List Int))) : Prop :=
 ∀ {zae : (List Int)} {a_a : Int} {a_m : Int} {a_b : Int} {zT : GTab} {zaw : GTyp} {zD : Vt} {r : (List Int)}, f' zae a_a a_m a_b zT zaw = some r → Ctr Tryz.prog 157 [vecv zD (zae.length), isv (a_a), isv (a_m), isv (a_b), clov 50 [immv (zT), immv (zaw)]] [vecE zD (zae : List Int)] (fun R H => R = oneOf [] ∧ H = [vecE zD (r)])
theorem zeK {za8 : (List Int) → Int → Int → Int → GTab → GTyp → Option ((List Int))} (zcZ : zb1 za8) : ∀ {zae : (List Int)} {a_a : Int} {a_m : Int} {a_b : Int} {zT : GTab} {zaw : GTyp} {zD : Vt} {r : (List Int)}, zb0 za8 zae a_a a_m a_b zT zaw = some r → Ctr Tryz.prog 157 [vecv zD (zae.length), isv (a_a), isv (a_m), isv (a_b), clov 50 [immv (zT), immv (zaw)]] [vecE zD (zae : List Int)] (fun R H => R = oneOf [] ∧ H = [vecE zD (r)]) := by
 intro zae a_a a_m a_b zT zaw zD r h
 unfold zb0 at h
 refine zp Tryz.func157 rfl fun w0 S0 hT => zj (wsr (oM rfl (oM rfl (zz h fun q1 h => oV (zaF rfl rfl q1) (oV (zao rfl rfl) (rnf ?_))))))
 refine zg h rfl (fun _ h => ?_) (fun _ h => ?_)
 ·refine wsr (oM rfl (oA rfl (rnf (wsr (oM rfl (oA rfl (rnf (zj ?_))))))))
  refine zq (zaN (ι := (List Int) × Int × Int) (γ := Unit) (fun q2 g2 => [(10, isv (q2.2.1)), (11, isv (q2.2.2)), (0, vecv zD (q2.1.length))]) (fun q2 g2 => [vecE zD (q2.1 : List Int)]) h () (za (j := 10) rfl hI (za (j := 11) rfl hI (za (j := 0) rfl (vecvE (by first | rfl | simp)) zd))) k1 (fun L3 q2 g2 Q145 h hL3 eL3 rL3 => ?_))
  refine zj (wsr (oM rfl (oM rfl (oV (zaj rfl rfl) (rnf (zg h rfl (fun _ h => ?_) (fun _ h => ?_)))))))
  ·refine wkf (zq (wsr (oM rfl (oM rfl (zz h fun q98 h => oV (zaa rfl rfl q98) (oV (ziu Tryz.underlying3 Tryz.underlying39 rfl) (oV (zfE (q := (1 : UInt64)) rfl rfl (by decide)) ?_)))))))
   refine zz h fun q99 h => oV (zfI Tryz.underlying39 Tryz.underlying3 rfl q99) (oA rfl (rnf (zj (zgG 0 .here rfl (by first | rfl | simp) (fun o100 hn101 => ?_)))))
   refine zS (.v 0 (.v 1 (.v 2 (.v 3 (.v 4 (.v 5 (.v 6 (.v 7 (.v 8 (.t 9 (.v 10 .nil))))))))))) moOrd (by kernel_rfl) ?_
   refine rvm rfl rfl (rvm rfl rfl (rvm rfl rfl (zb h fun y102 hy102 h => zo rfl (zeS (α := Int) sl23 rfl rfl hy102) (zo rfl (zeR ty3 rfl zcB) (rvm rfl rfl (rvm rfl rfl (zb h fun y103 hy103 h => ?_)))))))
   refine zo rfl (zeS (α := Int) sl23 rfl rfl hy103) (zo rfl (zeR ty3 rfl zcB) (zb h fun y104 hy104 h => zR rfl rfl (zea rfl (s2 rfl rfl) (zdb hy104) hT .nil (fun R H' hR => ?_))))
   obtain ⟨rfl, rfl⟩ := hR
   refine zo rfl (zaj rfl rfl) (zab (zde 0 hn101 rfl (zx (zg h rfl (fun _ h => ?_) (fun _ h => ?_)))))
   ·exact zh (oM rfl (zz h fun q105 h => oV (zaa rfl rfl q105) (oA rfl (zw (zi (hL3 _ () h _ (ze 29 rfl rfl (za (j := 10) rfl hI (za (j := 11) rfl hI (za (j := 0) rfl (vecvE (by first | rfl | simp)) zd))) k1)))))))
   exact zh (oM rfl (oA rfl (zw (zi (hL3 _ () h _ (ze 28 rfl rfl (za (j := 10) rfl hI (za (j := 11) rfl hI (za (j := 0) rfl (vecvE (by first | rfl | simp)) zd))) k1))))))
  refine zad (zU (eL3 _ _ (zE (zx (zj (wsr (oM rfl (oA rfl ?_))))))))
  refine rnf (zq (zaN (ι := (List Int) × Int) (γ := Unit) (fun q106 g106 => [(13, isv (q106.2)), (0, vecv zD (q106.1.length))]) (fun q106 g106 => [vecE zD (q106.1 : List Int)]) h () (za (j := 13) rfl hI (za (j := 0) rfl (vecvE (by first | rfl | simp)) zd)) k1 (fun L107 q106 g106 Q144 h hL107 eL107 rL107 => ?_)))
  refine zj (wsr (oM rfl (oM rfl (zz h fun q132 h => oV (zaF rfl rfl q132) (oV (zaj rfl rfl) (rnf (zg h rfl (fun _ h => ?_) (fun _ h => ?_))))))))
  ·refine wkf (zj (zq (zS (.v 0 (.v 1 (.v 2 (.v 3 (.v 4 (.v 5 (.v 6 (.v 7 (.v 8 (.v 10 (.v 11 (.v 12 (.alt 9 (.t 13 (.v 14 (.t 15 (.v 16 (.t 17 .nil))))) (.t 13 (.t 9 (.v 14 (.t 15 (.v 16 (.t 17 .nil))))))))))))))))))) moOrd (by kernel_rfl) ?_)))
   refine rvm rfl rfl (rvm rfl rfl (rvm rfl rfl (rvm rfl rfl (zz h fun q133 h => zo rfl (zaa rfl rfl q133) (rvm rfl rfl (rvm rfl rfl (zz h fun q134 h => ?_)))))))
   refine zo rfl (zaa rfl rfl q134) (zI h fun q135 h => zo rfl (zam (α := Int) sl23 rfl rfl q135.1 q135.2) (rvm rfl rfl (rvm rfl rfl (zI h fun q136 h => zo rfl (zam (α := Int) sl23 rfl rfl q136.1 q136.2) (zb h fun y137 hy137 h => zb h fun y138 hy138 h => ?_)))))
   refine zI h fun q139 h => zb h fun y140 hy140 h => zI h fun q141 h => zb h fun y142 hy142 h => zz h fun q143 h => zbv ?_ ?_
   ·refine zR rfl rfl (zat ty3 rfl .here hy137 ?_)
    refine zR rfl rfl (zat ty3 rfl .here hy138 ?_)
    refine zo rfl (zam (α := Int) sl23 rfl rfl q139.1 q139.2) (zR rfl rfl (zas ty3 rfl rfl .here hy140 (zo rfl (zam (α := Int) sl23 rfl rfl q141.1 q141.2) (zR rfl rfl (zas ty3 rfl rfl .here hy142 (zab (zi (zx (zh (oM rfl ?_))))))))))
    exact oV (zaa rfl rfl q143) (oA rfl (zw (hL107 _ () h _ (ze 25 rfl rfl (za (j := 13) rfl hI (za (j := 0) rfl (vecvE (by first | rfl | simp)) zd)) k1))))
   refine zR rfl rfl (zat ty3 rfl .here hy138 ?_)
   refine zR rfl rfl (zat ty3 rfl .here hy137 ?_)
   refine zo rfl (zam (α := Int) sl23 rfl rfl q139.1 q139.2) (zR rfl rfl (zas ty3 rfl rfl .here hy140 (zo rfl (zam (α := Int) sl23 rfl rfl q141.1 q141.2) (zR rfl rfl (zas ty3 rfl rfl .here hy142 (zab (zi (zx (zh (oM rfl ?_))))))))))
   exact oV (zaa rfl rfl q143) (oA rfl (zw (hL107 _ () h _ (ze 25 rfl rfl (za (j := 13) rfl hI (za (j := 0) rfl (vecvE (by first | rfl | simp)) zd)) k1))))
  refine zad (zU (eL107 _ _ (zE (zx (zJ (zA ?_))))))
  cases h
  exact zk .nil k1 ⟨rfl, rfl⟩
 refine wkf (zj (wsr (oM rfl (oM rfl (zz h fun q146 h => oV (zaF rfl rfl q146) (oV (zao rfl rfl) (rnf ?_)))))))
 refine zg h rfl (fun _ h => ?_) (fun _ h => ?_)
 ·refine wsr (oM rfl (oA rfl (rnf (wsr (oM rfl (oA rfl (rnf (zj ?_))))))))
  refine zq (zaN (ι := (List Int) × Int × Int) (γ := Unit) (fun q147 g147 => [(14, isv (q147.2.1)), (15, isv (q147.2.2)), (0, vecv zD (q147.1.length))]) (fun q147 g147 => [vecE zD (q147.1 : List Int)]) h () (za (j := 14) rfl hI (za (j := 15) rfl hI (za (j := 0) rfl (vecvE (by first | rfl | simp)) zd))) k1 (fun L148 q147 g147 Q281 h hL148 eL148 rL148 => ?_))
  refine zj (wsr (oM rfl (oM rfl (oV (zaj rfl rfl) (rnf (zg h rfl (fun _ h => ?_) (fun _ h => ?_)))))))
  ·refine wkf (zq (wsr (oM rfl (oM rfl (zz h fun q237 h => oV (zaa rfl rfl q237) (oV (ziu Tryz.underlying3 Tryz.underlying39 rfl) (oV (zfE (q := (1 : UInt64)) rfl rfl (by decide)) ?_)))))))
   refine zz h fun q238 h => oV (zfI Tryz.underlying39 Tryz.underlying3 rfl q238) (oA rfl (rnf (zj (zgG 0 .here rfl (by first | rfl | simp) (fun o239 hn240 => ?_)))))
   refine zS (.v 0 (.v 1 (.v 2 (.v 3 (.v 4 (.v 5 (.v 6 (.v 7 (.v 8 (.t 9 (.v 10 (.v 11 .nil)))))))))))) moOrd (by kernel_rfl) ?_
   refine rvm rfl rfl (rvm rfl rfl (rvm rfl rfl (zb h fun y241 hy241 h => zo rfl (zeS (α := Int) sl23 rfl rfl hy241) (zo rfl (zeR ty3 rfl zcB) (rvm rfl rfl (rvm rfl rfl (zb h fun y242 hy242 h => ?_)))))))
   refine zo rfl (zeS (α := Int) sl23 rfl rfl hy242) (zo rfl (zeR ty3 rfl zcB) (zb h fun y243 hy243 h => zR rfl rfl (zea rfl (s2 rfl rfl) (zdb hy243) hT .nil (fun R H' hR => ?_))))
   obtain ⟨rfl, rfl⟩ := hR
   refine zo rfl (zaj rfl rfl) (zo rfl (zbq rfl) (zab (zde 0 hn240 rfl (zx (zg h rfl (fun _ h => ?_) (fun _ h => ?_))))))
   ·exact zh (oM rfl (zz h fun q244 h => oV (zaa rfl rfl q244) (oA rfl (zw (zi (hL148 _ () h _ (ze 30 rfl rfl (za (j := 14) rfl hI (za (j := 15) rfl hI (za (j := 0) rfl (vecvE (by first | rfl | simp)) zd))) k1)))))))
   exact zh (oM rfl (oA rfl (zw (zi (hL148 _ () h _ (ze 29 rfl rfl (za (j := 14) rfl hI (za (j := 15) rfl hI (za (j := 0) rfl (vecvE (by first | rfl | simp)) zd))) k1))))))
  refine zad (zU (eL148 _ _ (zE (zx (zj (wsr (oM rfl (oA rfl ?_))))))))
  refine rnf (zq (zaN (ι := (List Int) × Int) (γ := Unit) (fun q245 g245 => [(17, isv (q245.2)), (0, vecv zD (q245.1.length))]) (fun q245 g245 => [vecE zD (q245.1 : List Int)]) h () (za (j := 17) rfl hI (za (j := 0) rfl (vecvE (by first | rfl | simp)) zd)) k1 (fun L246 q245 g245 Q280 h hL246 eL246 rL246 => ?_)))
  refine zj (wsr (oM rfl (oM rfl (oV (zbu rfl rfl) (rnf (zg h rfl (fun _ h => ?_) (fun _ h => ?_)))))))
  ·refine wkf (zj (zq (zS (.v 0 (.v 1 (.v 2 (.v 3 (.v 4 (.v 5 (.v 6 (.v 7 (.v 8 (.v 10 (.v 11 (.v 12 (.alt 9 (.t 13 (.v 14 (.t 15 (.v 16 (.t 17 .nil))))) (.t 13 (.t 9 (.v 14 (.t 15 (.v 16 (.t 17 .nil))))))))))))))))))) moOrd (by kernel_rfl) ?_)))
   refine rvm rfl rfl (rvm rfl rfl (rvm rfl rfl (rvm rfl rfl (zz h fun q269 h => zo rfl (zaF rfl rfl q269) (rvm rfl rfl (rvm rfl rfl (zz h fun q270 h => ?_)))))))
   refine zo rfl (zaF rfl rfl q270) (zI h fun q271 h => zo rfl (zam (α := Int) sl23 rfl rfl q271.1 q271.2) (rvm rfl rfl (rvm rfl rfl (zI h fun q272 h => zo rfl (zam (α := Int) sl23 rfl rfl q272.1 q272.2) (zb h fun y273 hy273 h => zb h fun y274 hy274 h => ?_)))))
   refine zI h fun q275 h => zb h fun y276 hy276 h => zI h fun q277 h => zb h fun y278 hy278 h => zz h fun q279 h => zbv ?_ ?_
   ·refine zR rfl rfl (zat ty3 rfl .here hy273 ?_)
    refine zR rfl rfl (zat ty3 rfl .here hy274 ?_)
    refine zo rfl (zam (α := Int) sl23 rfl rfl q275.1 q275.2) (zR rfl rfl (zas ty3 rfl rfl .here hy276 (zo rfl (zam (α := Int) sl23 rfl rfl q277.1 q277.2) (zR rfl rfl (zas ty3 rfl rfl .here hy278 (zab (zi (zx (zh (oM rfl ?_))))))))))
    exact oV (zaF rfl rfl q279) (oA rfl (zw (hL246 _ () h _ (ze 24 rfl rfl (za (j := 17) rfl hI (za (j := 0) rfl (vecvE (by first | rfl | simp)) zd)) k1))))
   refine zR rfl rfl (zat ty3 rfl .here hy274 ?_)
   refine zR rfl rfl (zat ty3 rfl .here hy273 ?_)
   refine zo rfl (zam (α := Int) sl23 rfl rfl q275.1 q275.2) (zR rfl rfl (zas ty3 rfl rfl .here hy276 (zo rfl (zam (α := Int) sl23 rfl rfl q277.1 q277.2) (zR rfl rfl (zas ty3 rfl rfl .here hy278 (zab (zi (zx (zh (oM rfl ?_))))))))))
   exact oV (zaF rfl rfl q279) (oA rfl (zw (hL246 _ () h _ (ze 24 rfl rfl (za (j := 17) rfl hI (za (j := 0) rfl (vecvE (by first | rfl | simp)) zd)) k1))))
  refine zad (zU (eL246 _ _ (zE (zx (zJ (zA ?_))))))
  cases h
  exact zk .nil k1 ⟨rfl, rfl⟩
 refine wkf (wsr (oM rfl (oM rfl (zz h fun q282 h => oV (zaa rfl rfl q282) (oV (ziu Tryz.underlying3 Tryz.underlying39 rfl) (oV (zfE (q := (1 : UInt64)) rfl rfl (by decide)) ?_))))))
 refine zz h fun q283 h => oV (zfI Tryz.underlying39 Tryz.underlying3 rfl q283) (oA rfl (rnf (wsr (oM rfl (oM rfl (zz h fun q284 h => oV (zaa rfl rfl q284) ?_))))))
 refine oA rfl (rnf (wsr (oA rfl (oA rfl (rnf (zj (wsr (oM rfl ?_))))))))
 refine oM rfl (oV (zbu rfl rfl) (rnf (zdB (ι := Int × Int) (γ := Unit) (fun q285 g285 => [(20, isv (q285.1)), (21, isv (q285.2))]) (fun q285 g285 => []) .nil h (fun q285 g285 h => ?_) (fun J286 h hJ286 => ?_))))
 ·refine wsr (oM rfl (zz h fun q288 h => oV (zaF rfl rfl q288) (oA rfl (rnf (zj (zq (zaN (ι := (List Int) × Int × Int) (γ := Unit) (fun q289 g289 => [(20, isv (q289.2.1)), (21, isv (q289.2.2)), (0, vecv zD (q289.1.length))]) (fun q289 g289 => [vecE zD (q289.1 : List Int)]) h () (za (j := 20) rfl hI (za (j := 21) rfl hI (za (j := 0) rfl (vecvE (by first | rfl | simp)) zd))) k1 (fun L290 q289 g289 Q378 h hL290 eL290 rL290 => ?_))))))))
  refine zj (wsr (oM rfl (oM rfl (oV (zaj rfl rfl) (rnf (zg h rfl (fun _ h => ?_) (fun _ h => ?_)))))))
  ·refine wkf (zq (wsr (oM rfl (oM rfl (zz h fun q349 h => oV (zaa rfl rfl q349) (oV (ziu Tryz.underlying3 Tryz.underlying39 rfl) (oV (zfE (q := (1 : UInt64)) rfl rfl (by decide)) ?_)))))))
   refine zz h fun q350 h => oV (zfI Tryz.underlying39 Tryz.underlying3 rfl q350) (oA rfl (rnf (zj (zgG 0 .here rfl (by first | rfl | simp) (fun o351 hn352 => ?_)))))
   refine zS (.v 0 (.v 1 (.v 2 (.v 3 (.v 4 (.v 5 (.v 6 (.v 7 (.v 8 (.v 9 (.v 10 (.t 11 (.v 12 (.v 13 .nil)))))))))))))) moOrd (by kernel_rfl) ?_
   refine rvm rfl rfl (rvm rfl rfl (rvm rfl rfl (rvm rfl rfl (zz h fun q353 h => zo rfl (zaF rfl rfl q353) (zb h fun y354 hy354 h => zo rfl (zeS (α := Int) sl23 rfl rfl hy354) (zo rfl (zeR ty3 rfl zcB) ?_))))))
   refine rvm rfl rfl (rvm rfl rfl (zb h fun y355 hy355 h => zo rfl (zeS (α := Int) sl23 rfl rfl hy355) (zo rfl (zeR ty3 rfl zcB) (zb h fun y356 hy356 h => zR rfl rfl (zea rfl (s2 rfl rfl) (zdb hy356) hT .nil (fun R H' hR => ?_))))))
   obtain ⟨rfl, rfl⟩ := hR
   refine zo rfl (zaj rfl rfl) (zo rfl (zbq rfl) (zab (zde 0 hn352 rfl (zx (zg h rfl (fun _ h => ?_) (fun _ h => ?_))))))
   ·exact zh (oM rfl (zz h fun q357 h => oV (zaa rfl rfl q357) (oA rfl (zw (zi (hL290 _ () h _ (ze 32 rfl rfl (za (j := 20) rfl hI (za (j := 21) rfl hI (za (j := 0) rfl (vecvE (by first | rfl | simp)) zd))) k1)))))))
   exact zh (oM rfl (oA rfl (zw (zi (hL290 _ () h _ (ze 31 rfl rfl (za (j := 20) rfl hI (za (j := 21) rfl hI (za (j := 0) rfl (vecvE (by first | rfl | simp)) zd))) k1))))))
  refine zad (zU (eL290 _ _ (zE (zx (wsr (oM rfl (oM rfl (zz h fun q358 h => ?_))))))))
  refine oV (zaF rfl rfl q358) (oA rfl (rnf (zj (wsr (oM rfl (oM rfl (oV (zaj rfl rfl) (oM rfl ?_))))))))
  refine zau (jb 185) je .nil h 4 rfl (fun q359 g359 h => ?_) (fun J360 h hJ360 => ?_)
  ·refine rnf (zdB (ι := (List Int)) (γ := Unit) (fun q362 g362 => [(0, vecv zD (q362.length))]) (fun q362 g362 => [vecE zD (q362 : List Int)]) k1 h (fun q362 g362 h => ?_) (fun J363 h hJ363 => ?_))
   ·refine zj (wsr (oM rfl (oM rfl (oV (zaj rfl rfl) (oM rfl (zau (jb 199) je .nil h 4 rfl (fun q366 g366 h => ?_) (fun J367 h hJ367 => ?_)))))))
    ·refine rnf (zdB (ι := (List Int)) (γ := Unit) (fun q369 g369 => [(0, vecv zD (q369.length))]) (fun q369 g369 => [vecE zD (q369 : List Int)]) k1 h (fun q369 g369 h => ?_) (fun J370 h hJ370 => ?_))
     ·refine wsr (oM rfl (oM rfl (oV (zaj rfl rfl) (oM rfl (zau (jb 213) je .nil h 4 rfl (fun q373 g373 h => ?_) (fun J374 h hJ374 => ?_))))))
      ·refine rnf (zg h rfl (fun _ h => ?_) (fun _ h => ?_))
       ·refine zh (oM rfl (oM rfl (oM rfl (oM rfl (oM rfl (zb h fun y376 hy376 h => oT (zy (zcZ hy376) hT (.cons rfl (fun _ _ h => vecvE (by first | rfl | simp) _ _ h) (s4 rfl rfl rfl rfl)) k1 ?_)))))))
        refine zI h fun q377 h => zG (zO 0 rfl (vecvE q377.symm)) (zG (zO 214 rfl (vecvE q377.symm)) (zw (zan .nil k1 ?_)))
        cases h
        exact ⟨rfl, rfl⟩
       refine zac (zan .nil k1 ?_)
       cases h
       exact ⟨rfl, rfl⟩
      refine zB (j := 209) h rfl (fun g375 h => ?_) (fun g375 h => ?_)
      ·exact oK 209 rfl rfl rfl g375 (zt rfl) (oK 209 rfl rfl rfl g375 (zt rfl) (oK 209 rfl rfl rfl g375 (zaj rfl rfl) (oV (zs rfl g375 rfl) (hJ374 _ () h _ (jk 4 213 rfl rfl rfl)))))
      exact oP 209 rfl rfl g375 (oP 209 rfl rfl g375 (oP 209 rfl rfl g375 (oV (zr rfl g375 rfl) (hJ374 _ () h _ (jk 4 213 rfl rfl rfl)))))
     refine zg h rfl (fun _ h => ?_) (fun _ h => ?_)
     ·refine zh (oM rfl (oM rfl (oM rfl (oM rfl (oM rfl (zb h fun y371 hy371 h => oT (zy (zcZ hy371) hT (.cons rfl (fun _ _ h => vecvE (by first | rfl | simp) _ _ h) (s4 rfl rfl rfl rfl)) k1 ?_)))))))
      exact zI h fun q372 h => zG (zO 0 rfl (vecvE q372.symm)) (zG (zO 200 rfl (vecvE q372.symm)) (zw (hJ370 _ () h _ (ze 8 rfl rfl (za (j := 0) rfl (vecvE (by first | rfl | simp)) zd) k1))))
     exact zac (hJ370 _ () h _ (ze 0 rfl rfl (za (j := 0) rfl (vecvE (by first | rfl | simp)) zd) k1))
    refine zB (j := 195) h rfl (fun g368 h => ?_) (fun g368 h => ?_)
    ·exact oK 195 rfl rfl rfl g368 (zt rfl) (oK 195 rfl rfl rfl g368 (zt rfl) (oK 195 rfl rfl rfl g368 (zaj rfl rfl) (oV (zs rfl g368 rfl) (hJ367 _ () h _ (jk 4 199 rfl rfl rfl)))))
    exact oP 195 rfl rfl g368 (oP 195 rfl rfl g368 (oP 195 rfl rfl g368 (oV (zr rfl g368 rfl) (hJ367 _ () h _ (jk 4 199 rfl rfl rfl)))))
   refine zg h rfl (fun _ h => ?_) (fun _ h => ?_)
   ·refine zh (oM rfl (oM rfl (oM rfl (oM rfl (oM rfl (zb h fun y364 hy364 h => oT (zy (zfp hy364) hT (.cons rfl (fun _ _ h => vecvE (by first | rfl | simp) _ _ h) (s4 rfl rfl rfl rfl)) k1 ?_)))))))
    exact zI h fun q365 h => zG (zO 0 rfl (vecvE q365.symm)) (zG (zO 186 rfl (vecvE q365.symm)) (zw (hJ363 _ () h _ (ze 8 rfl rfl (za (j := 0) rfl (vecvE (by first | rfl | simp)) zd) k1))))
   exact zac (hJ363 _ () h _ (ze 0 rfl rfl (za (j := 0) rfl (vecvE (by first | rfl | simp)) zd) k1))
  refine zB (j := 181) h rfl (fun g361 h => ?_) (fun g361 h => ?_)
  ·exact oK 181 rfl rfl rfl g361 (zt rfl) (oK 181 rfl rfl rfl g361 (zt rfl) (oK 181 rfl rfl rfl g361 (zaj rfl rfl) (oV (zs rfl g361 rfl) (hJ360 _ () h _ (jk 4 185 rfl rfl rfl)))))
  exact oP 181 rfl rfl g361 (oP 181 rfl rfl g361 (oP 181 rfl rfl g361 (oV (zr rfl g361 rfl) (hJ360 _ () h _ (jk 4 185 rfl rfl rfl)))))
 refine zg h rfl (fun _ h => ?_) (fun _ h => ?_)
 ·refine wsr (oM rfl (oM rfl (zz h fun q287 h => oV (zaF rfl rfl q287) (oA rfl (rnf (zh (oM rfl ?_)))))))
  exact oA rfl (zw (hJ286 _ () h _ (ze 6 rfl rfl (za (j := 20) rfl hI (za (j := 21) rfl hI zd)) k1)))
 exact wsr (oM rfl (oA rfl (rnf (zh (oM rfl (oA rfl (zw (hJ286 _ () h _ (ze 4 rfl rfl (za (j := 20) rfl hI (za (j := 21) rfl hI zd)) k1)))))))))

theorem zcp : ∀ n, zb1 (zaT n)
 | 0 => fun h => (by cases h)
 | n + 1 => zeK (zcp n)
theorem zc0 (n : Nat) : zb1 (zaT n) := (zcp n)

theorem zfg : ∀ {zae : (List Int)} {a_n_ : Int} {zT : GTab} {zaw : GTyp} {zD : Vt} {r : (List Int)}, zbO zae a_n_ zT zaw = some r → Ctr Tryz.prog 118 [vecv zD (zae.length), isv (a_n_), clov 50 [immv (zT), immv (zaw)]] [vecE zD (zae : List Int)] (fun R H => R = oneOf [] ∧ H = [vecE zD (r)]) := by
 intro zae a_n_ zT zaw zD r h
 unfold zbO at h
 refine zp Tryz.func118 rfl fun w0 S0 hT => wsr (oA rfl (rnf (wsr (oM rfl (oA rfl (oA rfl (rnf ?_)))))))
 refine zj (zq (zaN (ι := (List Int) × Int × Int) (γ := Unit) (fun q1 g1 => [(7, isv (q1.2.1)), (8, isv (q1.2.2)), (0, vecv zD (q1.1.length))]) (fun q1 g1 => [vecE zD (q1.1 : List Int)]) h () (za (j := 7) rfl hI (za (j := 8) rfl hI (za (j := 0) rfl (vecvE (by first | rfl | simp)) zd))) k1 (fun L2 q1 g1 Q183 h hL2 eL2 rL2 => ?_)))
 refine zj (wsr (oM rfl (oM rfl (oV (ziQ rfl rfl) (rnf (zg h rfl (fun _ h => ?_) (fun _ h => ?_)))))))
 ·refine wkf (zq (wsr (oM rfl (oM rfl (oM rfl (oM rfl (zb h fun y123 hy123 h => oT (zy (zci hy123) hT (.cons rfl (fun _ _ h => vecvE (by first | rfl | simp) _ _ h) (s3 rfl rfl rfl)) k1 ?_))))))))
  refine zI h fun q124 h => zG (zO 0 rfl (vecvE q124.symm)) (zG (zO 14 rfl (vecvE q124.symm)) (rnf (wsr (oM rfl (oA rfl (rnf (zh ?_)))))))
  exact oM rfl (oM rfl (zz h fun q125 h => oV (zaa rfl rfl q125) (oA rfl (zw (zi (hL2 _ () h _ (ze 19 rfl rfl (za (j := 7) rfl hI (za (j := 8) rfl hI (za (j := 0) rfl (vecvE (by first | rfl | simp)) zd))) k1)))))))
 refine zad (zU (eL2 _ _ (zE (zx (wsr (oM rfl (oM rfl (oM rfl ?_))))))))
 refine oM rfl (zb h fun y126 hy126 h => oT (zy (zci hy126) hT (.cons rfl (fun _ _ h => vecvE (by first | rfl | simp) _ _ h) (s3 rfl rfl rfl)) k1 ?_))
 refine zI h fun q127 h => zG (zO 0 rfl (vecvE q127.symm)) (zG (zO 23 rfl (vecvE q127.symm)) (rnf (zq (zaN (ι := (List Int) × Int) (γ := Unit) (fun q128 g128 => [(6, isv (q128.2)), (7, anyv), (8, anyv), (23, anyv), (0, vecv zD (q128.1.length))]) (fun q128 g128 => [vecE zD (q128.1 : List Int)]) h () (za (j := 6) rfl hI (za (j := 7) rfl (fun _ _ _ => trivial) (za (j := 8) rfl (fun _ _ _ => trivial) (za (j := 23) rfl (fun _ _ _ => trivial) (za (j := 0) rfl (vecvE (by first | rfl | simp)) zd))))) k1 (fun L129 q128 g128 Q182 h hL129 eL129 rL129 => ?_)))))
 refine zj (wsr (oM rfl (oM rfl (oV (zaj rfl rfl) (rnf (zg h rfl (fun _ h => ?_) (fun _ h => ?_)))))))
 ·refine wkf (zq (wsr (oM rfl (zz h fun q156 h => oV (zjL rfl rfl q156) (oA rfl (oA rfl (rnf ?_)))))))
  refine zj (zq (zaN (ι := (List Int) × Int × Int) (γ := Unit) (fun q157 g157 => [(7, isv (q157.2.1)), (8, isv (q157.2.2)), (0, vecv zD (q157.1.length))]) (fun q157 g157 => [vecE zD (q157.1 : List Int)]) h () (za (j := 7) rfl hI (za (j := 8) rfl hI (za (j := 0) rfl (vecvE (by first | rfl | simp)) zd))) k1 (fun L158 q157 g157 Q181 h hL158 eL158 rL158 => ?_)))
  refine zj (wsr (oM rfl (oM rfl (oV (ziQ rfl rfl) (rnf (zg h rfl (fun _ h => ?_) (fun _ h => ?_)))))))
  ·refine wkf (zq (wsr (oM rfl (oM rfl (oM rfl (oM rfl (zz h fun q170 h => oV (zaa rfl rfl q170) ?_)))))))
   refine oM rfl (oM rfl (zb h fun y171 hy171 h => oT (zy (zc0 fuel hy171) hT (.cons rfl (fun _ _ h => vecvE (by first | rfl | simp) _ _ h) (s4 rfl rfl rfl rfl)) k1 ?_)))
   refine zI h fun q172 h => zG (zO 0 rfl (vecvE q172.symm)) (zG (zO 36 rfl (vecvE q172.symm)) (rnf (wsr (oM rfl (oA rfl (rnf (zh ?_)))))))
   refine oM rfl (oM rfl (zz h fun q173 h => oV (zjL rfl rfl q173) (zz h fun q174 h => oV (zaa rfl rfl q174) (oA rfl (zw (zi ?_))))))
   exact hL158 _ () h _ (ze 23 rfl rfl (za (j := 7) rfl hI (za (j := 8) rfl hI (za (j := 0) rfl (vecvE (by first | rfl | simp)) zd))) k1)
  refine zad (zU (eL158 _ _ (zE (zx (zj (wsr (oM rfl (oM rfl ?_))))))))
  refine zz h fun q175 h => oV (zaa rfl rfl q175) (oA rfl (rnf (wsr (oM rfl (oM rfl (oV (zaj rfl rfl) (rnf ?_)))))))
  refine zdB (ι := (List Int)) (γ := Unit) (fun q176 g176 => [(0, vecv zD (q176.length))]) (fun q176 g176 => [vecE zD (q176 : List Int)]) k1 h (fun q176 g176 h => ?_) (fun J177 h hJ177 => ?_)
  ·exact zh (oM rfl (zz h fun q180 h => oV (zjL rfl rfl q180) (oA rfl (zw (zi (hL129 _ () h _ (ze 29 rfl rfl (za (j := 6) rfl hI (za (j := 7) rfl (fun _ _ _ => trivial) (za (j := 8) rfl (fun _ _ _ => trivial) (za (j := 23) rfl (fun _ _ _ => trivial) (za (j := 0) rfl (vecvE (by first | rfl | simp)) zd))))) k1)))))))
  refine zg h rfl (fun _ h => ?_) (fun _ h => ?_)
  ·refine zh (oM rfl (oM rfl (oM rfl (oM rfl (oM rfl (zb h fun y178 hy178 h => oT (zy (zc0 fuel hy178) hT (.cons rfl (fun _ _ h => vecvE (by first | rfl | simp) _ _ h) (s4 rfl rfl rfl rfl)) k1 ?_)))))))
   exact zI h fun q179 h => zG (zO 0 rfl (vecvE q179.symm)) (zG (zO 55 rfl (vecvE q179.symm)) (zw (hJ177 _ () h _ (ze 8 rfl rfl (za (j := 0) rfl (vecvE (by first | rfl | simp)) zd) k1))))
  exact zac (hJ177 _ () h _ (ze 0 rfl rfl (za (j := 0) rfl (vecvE (by first | rfl | simp)) zd) k1))
 refine zad (zU (eL129 _ _ (zE (zan .nil k1 ?_))))
 cases h
 exact ⟨rfl, rfl⟩


theorem zeg : ∀ {a_x : (List Int)} {zT : GTab} {zaw : GTyp} {zhZ : Vt} {r : (List Int)}, zbi a_x zT zaw = some r → Ctr Tryz.prog 80 [vecv zhZ (a_x.length), clov 50 [immv (zT), immv (zaw)]] [vecE zhZ (a_x : List Int)] (fun R H => R = oneOf [] ∧ H = [vecE zhZ (r)]) := by
 intro a_x zT zaw zhZ r h
 unfold zbi at h
 refine zp Tryz.func80 rfl fun w0 S0 hT => zh (oM rfl (oM rfl (oV (zfM sl23 rfl) (oM rfl (zb h fun y1 hy1 h => oT (zy (zfg hy1) hT (.cons rfl (fun _ _ h => vecvE (by first | rfl | simp) _ _ h) (s2 rfl rfl)) k1 ?_))))))
 refine zI h fun q2 h => zG (zO 0 rfl (vecvE q2.symm)) (zG (zO 4 rfl (vecvE q2.symm)) (zG (zO 5 rfl (vecvE q2.symm)) (zw (zan .nil k1 ?_))))
 cases h
 exact ⟨rfl, rfl⟩


theorem ziW : ∀ {zcH : GTab} {zfY : GTyp} {a_l : (List Int)} {zcd : (List Int)} {zc1 : Vt} {r : (List Int)}, zd5 zcH zfY a_l zcd = some r → Ctr Tryz.prog 49 [clov 50 [immv (zcH), immv (zfY)], vecv zc1 (a_l.length), isv (zcd)] [vecE zc1 (a_l : List Int)] (fun R H => R = oneOf [isv (r)] ∧ H = []) := by
 intro zcH zfY a_l zcd zc1 r h
 unfold zd5 at h
 refine zp Tryz.func49 rfl fun w0 S0 hT => wsr (oA rfl (zG (zdo (α := Int)) (zG (zO 6 rfl nilvV) (rnf (wsr (oM rfl (oM rfl ?_)))))))
 refine zb h fun y2 hy2 h => oT (zy (zeg hy2) hT (.cons rfl (fun _ _ h => vecvE (by first | rfl | simp) _ _ h) (s1 rfl)) (.cons tH .nil) ?_)
 refine zI h fun q3 h => zG (zO 1 rfl (vecvE q3.symm)) (zG (zO 7 rfl (vecvE q3.symm)) (rnf (wsr (oM rfl (oM rfl (zal h fun q5 h => oT (zfv (m := zcd) zbk rfl rfl hI .here (by first | rfl | simp) q5 fun v4 => ?_)))))))
 refine oA rfl (rnf (zJ (zdx (zdj 6 .here rfl (by first | rfl | simp)) ?_)))
 cases h
 exact zk (.tmp rfl .nil) .nil ⟨rfl, rfl⟩


theorem zgO : ∀ {a_t : GTab} {a_i : Int} {r : (List Int)}, zcX a_t a_i = some r → Ctr Tryz.prog 16 [isv (a_t), isv (a_i)] [] (fun R H => R = oneOf [isv (r)] ∧ H = []) := by
 intro a_t a_i r h
 unfold zcX at h
 refine zp Tryz.func16 rfl fun w0 S0 hT => wsr (oT (zaV (y := a_t) rfl hI (oA rfl (rnf (wsr (oV (zf ty26 rfl) (oM rfl (zb h fun y1 hy1 h => ?_))))))))
 refine oT (zy (zfO hy1) hT (s2 rfl rfl) .nil (oT (zaf _ ze87 fun b2 => oT (zm (y' := (y1 : GTyp)) ty87 rfl rfl hI .here rfl (zG (zaq 5 .here rfl) (rnf (wsr (oV (zW rfl GTyp.f4 zbA rfl (z := y1.fields)) (oV (zf ty85 rfl) (oV (zaR (l := y1.fields) rfl hI sl85) ?_))))))))))
 refine oA rfl (rnf (zj (wsr (oV (zW rfl GTyp.f0 zcx rfl (z := y1.kind)) (oV (zf ty3 rfl) (rnf (zq (wsr ?_))))))))
 refine oV (zao rfl rfl) (oA rfl (rnf (zg h rfl (fun _ h => ?_) (fun _ h => ?_))))
 ·refine wsr (oM rfl (zb h fun y3 hy3 h => oT (zN (zcE hy3) hT (s2 rfl rfl) .nil (fun R H' hR => ?_))))
  obtain ⟨v4, rfl, rfl⟩ := hR
  refine oA rfl (rnf (zJ (zH (zA (zdx (zdj 4 .here rfl (by first | rfl | simp)) ?_)))))
  cases h
  exact zk (.tmp rfl .nil) .nil ⟨rfl, rfl⟩
 refine zj (wsr (oV (zao rfl rfl) (oA rfl (rnf (zdB (jb 20) je .nil h (fun q5 g5 h => ?_) (fun J6 h hJ6 => ?_))))))
 ·refine zg h rfl (fun _ h => ?_) (fun _ h => ?_)
  ·refine wsr (oV (zW rfl GTyp.f5 zfr rfl (z := y1.root)) (oV (zf ty3 rfl) (oV (znI rfl rfl) (oM rfl (oV (znk rfl rfl) (oA rfl (rnf (wsr ?_))))))))
   refine oV (zhu (s2 rfl rfl)) (oM rfl (zb h fun y7 hy7 h => oT (zN (zcE hy7) hT (s2 rfl rfl) .nil (fun R H' hR => ?_))))
   obtain ⟨v8, rfl, rfl⟩ := hR
   refine oM rfl (oM rfl (zb h fun y9 hy9 h => oT (zN (zcE hy9) hT (s2 rfl rfl) .nil (fun R H' hR => ?_))))
   obtain ⟨v10, rfl, rfl⟩ := hR
   refine zG (zdj 33 .here rfl (by first | rfl | simp)) ?_
   refine zb h fun y11 hy11 h => oT (zy (ziW hy11) hT (.same rfl (.cons rfl (fun _ _ h => vecvE (by first | rfl | simp) _ _ h) (s1 rfl))) k1 ?_)
   refine oA rfl (rnf (zJ (zH (zA ?_))))
   cases h
   exact zk (.tmp rfl .nil) .nil ⟨rfl, rfl⟩
  refine zac (zi (zx (wsr (oA rfl (rnf (zJ ?_))))))
  cases h
  exact zk (.as rfl (zcv (α := Int)) .nil) .nil ⟨rfl, rfl⟩
 refine zg h rfl (fun _ h => ?_) (fun _ h => ?_)
 ·exact zac (hJ6 _ () h _ (ji 0 20 rfl rfl rfl))
 exact zh (oV (zao rfl rfl) (oA rfl (zw (hJ6 _ () h _ (ji 2 20 rfl rfl rfl)))))


theorem zhp : ∀  {r : Bool}, zdn  = some r → Ctr Tryz.prog 12 [] [] (fun R H => R = oneOf [isv (r)] ∧ H = []) := by
 intro  r h
 unfold zdn at h
 refine zp Tryz.func12 rfl fun w0 S0 hT => wsr (oA rfl (rnf (wsr (zb h fun y1 hy1 h => oT (zy (zfF hy1) hT (s1 rfl) .nil (oM rfl (oV (zaB rfl rfl) ?_)))))))
 refine oV (zaB rfl rfl) (oT (zaf _ ze26 fun b2 => oT (zm (y' := (y1.1 : GTab)) ty26 rfl rfl hI .here rfl (zG (zaq 1 .here rfl) (oA rfl (rnf (wsr (oV (zf ty26 rfl) (zb h fun y3 hy3 h => ?_)))))))))
 refine oT (zy (zgO hy3) hT (s2 rfl rfl) .nil (oA rfl (rnf (wsr (oM rfl (oM rfl (zau (jb 15) je .nil h 4 rfl (fun q4 g4 h => ?_) (fun J5 h hJ5 => ?_))))))))
 ·refine oM rfl (zau (jb 21) je .nil h 5 rfl (fun q7 g7 h => ?_) (fun J8 h hJ8 => ?_))
  ·refine oM rfl (zau (jb 27) je .nil h 5 rfl (fun q11 g11 h => ?_) (fun J12 h hJ12 => ?_))
   ·refine oA rfl (rnf (zJ ?_))
    cases h
    exact zk (.tmp rfl .nil) .nil ⟨rfl, rfl⟩
   refine zB (j := 22) h rfl (fun g13 h => ?_) (fun g13 h => ?_)
   ·exact oK 22 rfl rfl rfl g13 (zt rfl) (zb h fun y14 hy14 h => oK 22 rfl rfl rfl g13 (zaz (l := y3) rfl hI rfl sl23 hy14) (oK 22 rfl rfl rfl g13 (zf ty3 rfl) (oK 22 rfl rfl rfl g13 (zao rfl rfl) (oV (zs rfl g13 rfl) (hJ12 _ () h _ (ji 5 27 rfl rfl rfl))))))
   exact oP 22 rfl rfl g13 (oP 22 rfl rfl g13 (oP 22 rfl rfl g13 (oP 22 rfl rfl g13 (oV (zr rfl g13 rfl) (hJ12 _ () h _ (ji 5 27 rfl rfl rfl))))))
  refine zB (j := 16) h rfl (fun g9 h => ?_) (fun g9 h => ?_)
  ·exact oK 16 rfl rfl rfl g9 (zt rfl) (zb h fun y10 hy10 h => oK 16 rfl rfl rfl g9 (zaz (l := y3) rfl hI rfl sl23 hy10) (oK 16 rfl rfl rfl g9 (zf ty3 rfl) (oK 16 rfl rfl rfl g9 (zao rfl rfl) (oV (zs rfl g9 rfl) (hJ8 _ () h _ (ji 5 21 rfl rfl rfl))))))
  exact oP 16 rfl rfl g9 (oP 16 rfl rfl g9 (oP 16 rfl rfl g9 (oP 16 rfl rfl g9 (oV (zr rfl g9 rfl) (hJ8 _ () h _ (ji 5 21 rfl rfl rfl))))))
 refine zB (j := 11) h rfl (fun g6 h => ?_) (fun g6 h => ?_)
 ·exact oK 11 rfl rfl rfl g6 (zt rfl) (oK 11 rfl rfl rfl g6 (zaR (l := y3) rfl hI sl23) (oK 11 rfl rfl rfl g6 (zao rfl rfl) (oV (zs rfl g6 rfl) (hJ5 _ () h _ (ji 4 15 rfl rfl rfl)))))
 exact oP 11 rfl rfl g6 (oP 11 rfl rfl g6 (oP 11 rfl rfl g6 (oV (zr rfl g6 rfl) (hJ5 _ () h _ (ji 4 15 rfl rfl rfl)))))


def zfk (f' : (List GTyp) → Int → Option ((List Tag))) : Prop :=
 ∀ {a_l : (List GTyp)} {a_i : Int} {r : (List Tag)}, f' a_l a_i = some r → Ctr Tryz.prog 79 [isv (a_l), isv (a_i)] [] (fun R H => R = oneOf [isv (r)] ∧ H = [])
theorem ziE {zeA : (List GTyp) → Int → Option ((List Tag))} (ziZ : zfk zeA) : ∀ {a_l : (List GTyp)} {a_i : Int} {r : (List Tag)}, zdg zeA a_l a_i = some r → Ctr Tryz.prog 79 [isv (a_l), isv (a_i)] [] (fun R H => R = oneOf [isv (r)] ∧ H = []) := by
 intro a_l a_i r h
 unfold zdg at h
 refine zp Tryz.func79 rfl fun w0 S0 hT => wsr (oA rfl (rnf (zj (wsr (oM rfl (oM rfl (zb h fun y1 hy1 h => ?_)))))))
 refine oV (zaz (l := a_l) rfl hI rfl sl24 hy1) (oV (zW rfl GTyp.f1 zeQ rfl (z := y1.tags)) (oV (zf ty78 rfl) (oV (zaR (l := y1.tags) rfl hI sl78) (oV (zbu rfl rfl) (rnf (zg h rfl (fun _ h => ?_) (fun _ h => ?_)))))))
 ·refine wsr (oM rfl (oM rfl (zb h fun y2 hy2 h => oV (zaz (l := a_l) rfl hI rfl sl24 hy2) (oV (zW rfl GTyp.f1 zeQ rfl (z := y2.tags)) (oV (zf ty78 rfl) (zI h fun q3 h => oV (zfl (l := y2.tags) rfl hI sl78 (.inl ⟨rfl, rfl⟩) (.inr ⟨_, rfl, rfl⟩) q3.1 q3.2.1 q3.2.2) ?_))))))
  refine oA rfl (rnf (zJ (zA ?_)))
  cases h
  exact zk (.tmp rfl .nil) .nil ⟨rfl, rfl⟩
 refine wkf (wsr (oA rfl (rnf (zj (wsr (oA rfl (rnf (zq ?_))))))))
 refine zfH (zaI) (zaN (ι := (List Tag) × Int) (γ := Tok) (fun q4 g4 => [(5, appv g4 (q4.1)), (6, isv (q4.2))]) (fun q4 g4 => [tokE g4]) h (none) (za (j := 5) rfl zbn (za (j := 6) rfl hI zd)) k1 (fun L5 q4 g4 Q21 h hL5 eL5 rL5 => zj (wsr (oM rfl (oM rfl (oM rfl (zb h fun y13 hy13 h => oV (zaz (l := a_l) rfl hI rfl sl24 hy13) ?_)))))))
 refine oV (zW rfl GTyp.f4 zbA rfl (z := y13.fields)) (oV (zf ty85 rfl) (oV (zaR (l := y13.fields) rfl hI sl85) (oV (zaj rfl rfl) (rnf (zg h rfl (fun _ h => ?_) (fun _ h => ?_))))))
 ·refine wkf (zj (zq (zh (oM rfl (oM rfl (oM rfl (oM rfl (zb h fun y14 hy14 h => ?_))))))))
  refine oV (zaz (l := a_l) rfl hI rfl sl24 hy14) (oV (zW rfl GTyp.f4 zbA rfl (z := y14.fields)) (oV (zf ty85 rfl) (oM rfl (zb h fun y15 hy15 h => oV (zaz (l := y14.fields) rfl hI rfl sl85 hy15) (oV (zW rfl GFld.f1 zc9 rfl (z := y15.ty)) (oV (zf ty3 rfl) (zb h fun y16 hy16 h => ?_)))))))
  refine oT (zy (ziZ hy16) hT (s2 rfl rfl) .nil (zal h fun q18 h => oT (zaZ (l := q4.1) (m := y16) zfw rfl hI rfl hI .here q18 fun t17 => oA rfl (zw (zi (zx (zh (oM rfl ?_))))))))
  exact zz h fun q19 h => oV (zaa rfl rfl q19) (oA rfl (zw (hL5 _ (t17) h _ (ze 27 rfl rfl (za (j := 5) rfl hI (za (j := 6) rfl hI zd)) k1))))
 refine zad (zU (eL5 _ _ (zE (zx (wsr (oM rfl (oA rfl (rnf ?_))))))))
 refine zJ ?_
 cases h
 exact zk (.as rfl zF .nil) .nil ⟨rfl, rfl⟩

theorem ze7 : ∀ n, zfk (zd1 n)
 | 0 => fun h => (by cases h)
 | n + 1 => ziE (ze7 n)
theorem ziU (n : Nat) : zfk (zd1 n) := (ze7 n)

theorem zkp : ∀ {a_t : GTab} {a_i : Int} {r : (List Tag)}, zfs a_t a_i = some r → Ctr Tryz.prog 43 [isv (a_t), isv (a_i)] [] (fun R H => R = oneOf [isv (r)] ∧ H = []) := by
 intro a_t a_i r h
 unfold zfs at h
 refine zp Tryz.func43 rfl fun w0 S0 hT => wsr (oT (zaV (y := a_t) rfl hI (oA rfl (rnf (zj (wsr (oM rfl (oV (zaj rfl rfl) ?_))))))))
 refine oM rfl (zau (jb 13) je .nil h 6 rfl (fun q1 g1 h => ?_) (fun J2 h hJ2 => ?_))
 ·refine rnf (zg h rfl (fun _ h => ?_) (fun _ h => ?_))
  ·refine wsr (oA rfl (rnf (zJ (zA ?_))))
   cases h
   exact zk (.as rfl (zcv (α := Tag)) .nil) .nil ⟨rfl, rfl⟩
  refine wkf (wsr (oV (zW rfl GTab.f3 zeM rfl (z := a_t.types)) (oV (zf ty24 rfl) (oM rfl (zb h fun y4 hy4 h => oT (zy (ziU fuel hy4) hT (s2 rfl rfl) .nil (zal h fun q6 h => oT (zgQ (m := y4) zfw rfl rfl hI q6 fun t5 => ?_))))))))
  refine oA rfl (rnf (zJ ?_))
  cases h
  exact zk (.as rfl zF .nil) .nil ⟨rfl, rfl⟩
 refine zB (j := 7) h rfl (fun g3 h => ?_) (fun g3 h => ?_)
 ·exact oP 7 rfl rfl g3 (oP 7 rfl rfl g3 (oP 7 rfl rfl g3 (oP 7 rfl rfl g3 (oP 7 rfl rfl g3 (oV (zs rfl g3 rfl) (hJ2 _ () h _ (ji 6 13 rfl rfl rfl)))))))
 exact oK 7 rfl rfl rfl g3 (zt rfl) (oK 7 rfl rfl rfl g3 (zW rfl GTab.f3 zeM rfl (z := a_t.types)) (oK 7 rfl rfl rfl g3 (zf ty24 rfl) (oK 7 rfl rfl rfl g3 (zaR (l := a_t.types) rfl hI sl24) (oK 7 rfl rfl rfl g3 (zeV rfl rfl) (oV (zr rfl g3 rfl) (hJ2 _ () h _ (ji 6 13 rfl rfl rfl)))))))


theorem zjb : ∀ {a_a : Tag} {a_b : Tag} {r : Bool}, zgf a_a a_b = some r → Ctr Tryz.prog 44 [isv (a_a), isv (a_b)] [] (fun R H => R = oneOf [isv (r)] ∧ H = []) := by
 intro a_a a_b r h
 unfold zgf at h
 refine zp Tryz.func44 rfl fun w0 S0 hT => wsr (oT (zaV (y := a_a) rfl hI (oT (zaV (y := a_b) rfl hI (oA rfl (rnf (wsr (oV (zW rfl Tag.f0 zgw rfl (z := a_a.cls)) (oV (zf ty3 rfl) ?_)))))))))
 refine oV (zW rfl Tag.f0 zgw rfl (z := a_b.cls)) (oV (zf ty3 rfl) (oV (zaj rfl rfl) (oM rfl (zau (jb 23) je .nil h 13 rfl (fun q1 g1 h => ?_) (fun J2 h hJ2 => ?_)))))
 ·refine oA rfl (rnf (zJ ?_))
  cases h
  exact zk (.tmp rfl .nil) .nil ⟨rfl, rfl⟩
 refine zB (j := 10) h rfl (fun g3 h => ?_) (fun g3 h => ?_)
 ·refine oP 10 rfl rfl g3 (oP 10 rfl rfl g3 (oP 10 rfl rfl g3 (oP 10 rfl rfl g3 (oP 10 rfl rfl g3 (oP 10 rfl rfl g3 (zC rfl (dj := 16) rfl (zC rfl (dj := 16) rfl (zC rfl (dj := 16) rfl ?_))))))))
  exact zC rfl (dj := 16) rfl (zC rfl (dj := 16) rfl (oP 10 rfl rfl g3 (oV (zs rfl g3 rfl) (hJ2 _ () h _ (ji 13 23 rfl rfl rfl)))))
 refine oK 10 rfl rfl rfl g3 (zW rfl Tag.f0 zgw rfl (z := a_a.cls)) (oK 10 rfl rfl rfl g3 (zf ty3 rfl) (oK 10 rfl rfl rfl g3 (zW rfl Tag.f0 zgw rfl (z := a_b.cls)) (oK 10 rfl rfl rfl g3 (zf ty3 rfl) (oK 10 rfl rfl rfl g3 (zao rfl rfl) (oK 10 rfl rfl rfl g3 (zt rfl) (zau (jb 22) je .nil h 6 rfl (fun q4 g4 h => ?_) (fun J5 h hJ5 => ?_)))))))
 ·exact oV (zr rfl g3 rfl) (hJ2 _ () h _ (ji 8 23 rfl rfl rfl))
 refine zB (j := 16) h rfl (fun g6 h => ?_) (fun g6 h => ?_)
 ·exact oK 16 rfl rfl rfl g6 (zW rfl Tag.f1 zer rfl (z := a_a.num)) (oK 16 rfl rfl rfl g6 (zf ty3 rfl) (oK 16 rfl rfl rfl g6 (zW rfl Tag.f1 zer rfl (z := a_b.num)) (oK 16 rfl rfl rfl g6 (zf ty3 rfl) (oK 16 rfl rfl rfl g6 (zaj rfl rfl) (oK 10 rfl rfl rfl g3 (zs rfl g6 rfl) (hJ5 _ () h _ (ji 6 22 rfl rfl rfl)))))))
 exact oP 16 rfl rfl g6 (oP 16 rfl rfl g6 (oP 16 rfl rfl g6 (oP 16 rfl rfl g6 (oP 16 rfl rfl g6 (oK 10 rfl rfl rfl g3 (zr rfl g6 rfl) (hJ5 _ () h _ (ji 6 22 rfl rfl rfl)))))))


theorem zgX : ∀ {a_t : GTab} {a_i : Int} {r : Tag}, zep a_t a_i = some r → Ctr Tryz.prog 14 [isv (a_t), isv (a_i)] [] (fun R H => R = oneOf [isv (r)] ∧ H = []) := by
 intro a_t a_i r h
 unfold zep at h
 refine zp Tryz.func14 rfl fun w0 S0 hT => wsr (oT (zaV (y := a_t) rfl hI (oT (zaf _ ze31 fun b1 => rnf (wsr (oV (zf ty26 rfl) (oM rfl (zb h fun y2 hy2 h => ?_))))))))
 refine oT (zy (zkp hy2) hT (s2 rfl rfl) .nil (oA rfl (rnf (wsr (oT (zaf _ ze31 fun b3 => rnf (zj (wsr (oA rfl ?_)))))))))
 refine rnf (zq (zaN (ι := Int × Tag) (γ := Unit) (fun q4 g4 => [(6, ptrv b3 (Fld.id Tag)), (7, isv (q4.1))]) (fun q4 g4 => [boxE b3 (q4.2 : Tag)]) h () (za (j := 6) rfl hI (za (j := 7) rfl hI zd)) k1 (fun L5 q4 g4 Q28 h hL5 eL5 rL5 => zj (wsr (oM rfl (oM rfl (oV (zaR (l := y2) rfl hI sl78) (oV (zaj rfl rfl) ?_))))))))
 refine rnf (zg h rfl (fun _ h => ?_) (fun _ h => ?_))
 ·refine wkf (zj (zdB (ι := Tag) (γ := Unit) (fun q17 g17 => [(6, ptrv b3 (Fld.id Tag))]) (fun q17 g17 => [boxE b3 (q17 : Tag)]) k1 h (fun q17 g17 h => ?_) (fun J18 h hJ18 => ?_)))
  ·exact zh (oM rfl (zz h fun q27 h => oV (zaa rfl rfl q27) (oA rfl (zw (hL5 _ () h _ (ze 10 rfl rfl (za (j := 6) rfl hI (za (j := 7) rfl hI zd)) k2))))))
  refine zq (zj (zc7 6 .here rfl (fun o19 hn20 => zS (.v 0 (.v 1 (.v 2 (.v 3 (.v 4 (.v 5 (.v 6 (.v 7 (.t 8 (.v 9 .nil)))))))))) moOrd (by kernel_rfl) ?_)))
  refine rvm rfl rfl (zo rfl (zao rfl rfl) (rvm rfl rfl (zc8 (jb 26) je .nil h 7 rfl (fun q21 g21 h => ?_) (fun J22 h hJ22 => ?_))))
  ·refine zab (zaO 6 hn20 rfl (zx (zg h rfl (fun _ h => ?_) (fun _ h => ?_))))
   ·refine zh (oM rfl (oM rfl (zb h fun y26 hy26 h => oV (zaz (l := y2) rfl hI rfl sl78 hy26) (oV (zf ty31 rfl) (oT (zm (y' := (y26 : Tag)) ty31 rfl rfl hI .here rfl (zw (zi ?_))))))))
    exact hJ18 _ () h _ (ze 10 rfl rfl (za (j := 6) rfl hI zd) k2)
   exact zac (zi (hJ18 _ () h _ (ze 6 rfl rfl (za (j := 6) rfl hI zd) k2)))
  refine zaA (j := 19) h rfl (fun g23 h => ?_) (fun g23 h => ?_)
  ·exact rpv 19 rfl rfl rfl g23 (rpv 19 rfl rfl rfl g23 (rpv 19 rfl rfl rfl g23 (rpv 19 rfl rfl rfl g23 (rpv 19 rfl rfl rfl g23 (za4 rfl rfl (dj := 19) rfl g23 (zo rfl (zs rfl g23 rfl) (hJ22 _ () h _ (jk 7 26 rfl rfl rfl))))))))
  refine rvt 19 rfl rfl rfl g23 (zt rfl) (rvt 19 rfl rfl rfl g23 (zt rfl) (zb h fun y24 hy24 h => rvt 19 rfl rfl rfl g23 (zaz (l := y2) rfl hI rfl sl78 hy24) (rvt 19 rfl rfl rfl g23 (zf ty31 rfl) (rvt 19 rfl rfl rfl g23 (zdk (R := isv (q4.2)) ty31 rfl (List.Mem.head _) hI) (zb h fun y25 hy25 h => zc2 rfl rfl rfl (dj := 19) rfl g23 (zy (zjb hy25) hT (s2 rfl rfl) .nil (zo rfl (zr rfl g23 rfl) ?_)))))))
  exact hJ22 _ () h _ (jk 7 26 rfl rfl rfl)
 refine zad (zU (eL5 _ _ (zE (zx (wsr (oT (zM (R := isv (q4.2)) ty31 rfl .here hI (oT (zm (y' := (q4.2 : Tag)) ty31 rfl rfl hI tH rfl (rnf ?_))))))))))
 refine zJ ?_
 cases h
 exact zk (.cell rfl .here ty31 .nil) .nil ⟨rfl, rfl⟩


theorem zgN : ∀ {a_t : GTab} {a_i : Int} {r : Bool}, zdX a_t a_i = some r → Ctr Tryz.prog 51 [isv (a_t), isv (a_i)] [] (fun R H => R = oneOf [isv (r)] ∧ H = []) := by
 intro a_t a_i r h
 unfold zdX at h
 refine zp Tryz.func51 rfl fun w0 S0 hT => wsr (oT (zaV (y := a_t) rfl hI (oA rfl (rnf (wsr (oM rfl (oV (zeV rfl rfl) (oM rfl ?_))))))))
 refine zau (jb 13) je .nil h 6 rfl (fun q1 g1 h => ?_) (fun J2 h hJ2 => ?_)
 ·refine oA rfl (rnf (zJ ?_))
  cases h
  exact zk (.tmp rfl .nil) .nil ⟨rfl, rfl⟩
 refine zB (j := 7) h rfl (fun g3 h => ?_) (fun g3 h => ?_)
 ·exact oK 7 rfl rfl rfl g3 (zt rfl) (oK 7 rfl rfl rfl g3 (zW rfl GTab.f3 zeM rfl (z := a_t.types)) (oK 7 rfl rfl rfl g3 (zf ty24 rfl) (oK 7 rfl rfl rfl g3 (zaR (l := a_t.types) rfl hI sl24) (oK 7 rfl rfl rfl g3 (zaj rfl rfl) (oV (zs rfl g3 rfl) (hJ2 _ () h _ (ji 6 13 rfl rfl rfl)))))))
 exact oP 7 rfl rfl g3 (oP 7 rfl rfl g3 (oP 7 rfl rfl g3 (oP 7 rfl rfl g3 (oP 7 rfl rfl g3 (oV (zr rfl g3 rfl) (hJ2 _ () h _ (ji 6 13 rfl rfl rfl)))))))

end Go.Proofs.Q

