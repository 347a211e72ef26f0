/- Walks, printed by mill.py. -/
import Derived.Test.YtnnijoepfgnlfaaGreatDoorOtA
import Derived.Test.YtnnijoepfgnlfaaGreatDoorOtB
import Derived.Test.YtnnijoepfgnlfaaGreatDoorOtC
import Derived.Test.YtnnijoepfgnlfaaGreatDoorOtD
import Derived.Test.YtnnijoepfgnlfaaGreatDoorOtE
import Derived.Test.YtnnijoepfgnlfaaGreatDoorOtF
set_option linter.unusedVariables false
set_option linter.unusedSimpArgs false

namespace Go.Proofs.Q
open Go.Sy
set_option maxRecDepth 4000
theorem zkk : ∀ {a_t : GTab} {a_i : Int} {r : (List Int)}, ze8 a_t a_i = some r → Ctr Tryz.prog 17 [isv (a_t), isv (a_i)] [] (fun R H => R = oneOf [isv (r)] ∧ H = []) := by
 intro a_t a_i r h
 unfold ze8 at h
 refine zp Tryz.func17 rfl fun w0 S0 hT => wsr (oT (zaV (y := a_t) rfl hI (oA rfl (rnf (zj (wsr (oV (zf ty26 rfl) (oM rfl ?_))))))))
 refine zb h fun y1 hy1 h => oT (zy (zgN hy1) hT (s2 rfl rfl) .nil (oV (zbq rfl) (rnf (zg h rfl (fun _ h => ?_) (fun _ h => ?_)))))
 ·refine wsr (oA rfl (rnf (zJ (zA ?_))))
  cases h
  exact zk (.as rfl (zcv (α := Int)) .nil) .nil ⟨rfl, rfl⟩
 refine wkf (wsr (oV (zW rfl GTab.f3 zeM rfl (z := a_t.types)) (oV (zf ty24 rfl) (oM rfl (zb h fun y2 hy2 h => oV (zaz (l := a_t.types) rfl hI rfl sl24 hy2) (oV (zf ty87 rfl) (oT (zaf _ ze87 fun b3 => ?_))))))))
 refine oT (zm (y' := (y2 : GTyp)) ty87 rfl rfl hI .here rfl (zG (zaq 5 .here rfl) (rnf (zj (wsr (oV (zW rfl GTyp.f0 zcx rfl (z := y2.kind)) (oV (zf ty3 rfl) (oV (zbo rfl rfl) (oM rfl ?_)))))))))
 refine zau (jb 25) je .nil h 4 rfl (fun q4 g4 h => ?_) (fun J5 h hJ5 => ?_)
 ·refine oM rfl (zau (jb 30) je .nil h 4 rfl (fun q7 g7 h => ?_) (fun J8 h hJ8 => ?_))
  ·refine rnf (zg h rfl (fun _ h => ?_) (fun _ h => ?_))
   ·refine wsr (oA rfl (rnf (zJ (zA ?_))))
    cases h
    exact zk (.as rfl (zcv (α := Int)) .nil) .nil ⟨rfl, rfl⟩
   refine wkf (wsr (oA rfl (rnf (zj (wsr (oA rfl (rnf (zq ?_))))))))
   refine zfH (zaI) (zaN (ι := (List Int) × Int) (γ := Tok) (fun q10 g10 => [(6, appv g10 (q10.1)), (7, isv (q10.2))]) (fun q10 g10 => [tokE g10]) h (none) (za (j := 6) rfl zbn (za (j := 7) rfl hI zd)) k1 (fun L11 q10 g10 Q143 h hL11 eL11 rL11 => zj (wsr (oM rfl (oV (zW rfl GTyp.f4 zbA rfl (z := y2.fields)) (oV (zf ty85 rfl) (oV (zaR (l := y2.fields) rfl hI sl85) (oV (zaj rfl rfl) ?_))))))))
   refine rnf (zg h rfl (fun _ h => ?_) (fun _ h => ?_))
   ·refine wkf (zj (zq (wsr (oM rfl (oV (zaR (l := q10.1) rfl zF sl23) (oA rfl (rnf (zj ?_))))))))
    refine zq (zaN (ι := Int) (γ := Unit) (fun q77 g77 => [(8, isv (q77))]) (fun q77 g77 => []) h () (za (j := 8) rfl hI zd) .nil (fun L78 q77 g77 Q141 h hL78 eL78 rL78 => zj (zj (zS (.v 0 (.v 1 (.v 2 (.v 3 (.v 4 (.v 5 (.v 6 (.v 7 (.v 8 (.v 9 (.v 10 (.v 11 (.v 12 (.v 13 (.v 14 (.v 15 (.v 16 (.v 17 (.v 18 (.v 19 (.v 20 (.v 22 (.v 23 (.v 24 (.v 25 (.v 26 (.v 27 (.v 28 (.v 29 (.v 30 (.v 31 (.v 32 (.t 21 (.t 33 (.t 34 (.v 35 .nil)))))))))))))))))))))))))))))))))))) moOrd (by kernel_rfl) ?_))))
    refine zo rfl (zW rfl GTyp.f0 zcx rfl (z := y2.kind)) (zo rfl (zf ty3 rfl) (zo rfl (zbo rfl rfl) (rvm rfl rfl (zc8 (jb 48) je .nil h 5 rfl (fun q110 g110 h => ?_) (fun J111 h hJ111 => ?_)))))
    ·refine rvm rfl rfl (zc8 (jb 52) je .nil h 3 rfl (fun q113 g113 h => ?_) (fun J114 h hJ114 => ?_))
     ·refine rvm rfl rfl (zc8 (jb 75) je .nil h 22 rfl (fun q116 g116 h => ?_) (fun J117 h hJ117 => ?_))
      ·refine zab (zx (zg h rfl (fun _ h => ?_) (fun _ h => ?_)))
       ·refine wkf (zq (zh (oM rfl (zz h fun q126 h => oV (zaF rfl rfl q126) (oA rfl (zw (zi ?_)))))))
        exact hL78 _ () h _ (jk 13 8 rfl rfl rfl)
       refine zad (zU (eL78 _ _ (zE (zx (zS (.v 0 (.v 1 (.v 2 (.v 4 (.v 7 (.v 8 (.v 9 (.alt 3 (.t 5 (.t 6 (.t 10 (.v 11 .nil)))) (.t 5 (.t 3 (.t 6 (.t 10 (.v 11 .nil))))))))))))) moOrd (by kernel_rfl) ?_)))))
       refine rvm rfl rfl (rvm rfl rfl (zI h fun q127 h => zo rfl (zfl (l := q10.1) rfl zF sl23 (.inl ⟨rfl, rfl⟩) (.inr ⟨_, rfl, rfl⟩) q127.1 q127.2.1 q127.2.2) (rvm rfl rfl (rvm rfl rfl (rvm rfl rfl (zI h fun q128 h => zo rfl (zfl (l := q10.1) rfl zF sl23 (.inr ⟨_, rfl, rfl⟩) (.inl ⟨rfl, rfl⟩) q128.1 q128.2.1 q128.2.2) ?_))))))
       refine zal h fun q130 h => zal h fun q133 h => zal h fun q135 h => zz h fun q136 h => zbv ?_ ?_
       ·refine zR rfl rfl (zgQ (m := ((q10.1.take (q77).toNat).drop (0 : Int).toNat)) zbk rfl rfl hI q130 fun t129 => zR rfl rfl (zY (l := ([q10.2] : (List Int))) el23 (.cons rfl hI .nil) rfl rfl (zR rfl rfl (zaZ (l := (([] : (List Int)) ++ ((q10.1.take (q77).toNat).drop (0 : Int).toNat))) (m := ([q10.2] : (List Int))) zbk rfl hI rfl zF .here q133 fun t132 => zR rfl rfl (zaZ (l := ((([] : (List Int)) ++ ((q10.1.take (q77).toNat).drop (0 : Int).toNat)) ++ ([q10.2] : (List Int)))) (m := ((q10.1.take ((q10.1.length : Int)).toNat).drop (q77).toNat)) zbk rfl hI rfl hI .here q135 fun t134 => zo rfl (zaP rfl) (zab (zi (zx (zh ?_)))))))))
        exact oM rfl (oV (zaa rfl rfl q136) (oA rfl (zw (hL11 _ (t134) h _ (ze 35 rfl rfl (za (j := 6) rfl hI (za (j := 7) rfl hI zd)) k1)))))
       refine zR rfl rfl (zY (l := ([q10.2] : (List Int))) el23 (.cons rfl hI .nil) rfl rfl (zR rfl rfl (zgQ (m := ((q10.1.take (q77).toNat).drop (0 : Int).toNat)) zbk rfl rfl hI q130 fun t138 => zR rfl rfl (zaZ (l := (([] : (List Int)) ++ ((q10.1.take (q77).toNat).drop (0 : Int).toNat))) (m := ([q10.2] : (List Int))) zbk rfl hI rfl zF .here q133 fun t139 => zR rfl rfl (zaZ (l := ((([] : (List Int)) ++ ((q10.1.take (q77).toNat).drop (0 : Int).toNat)) ++ ([q10.2] : (List Int)))) (m := ((q10.1.take ((q10.1.length : Int)).toNat).drop (q77).toNat)) zbk rfl hI rfl hI .here q135 fun t140 => zo rfl (zaP rfl) (zab (zi (zx (zh ?_)))))))))
       exact oM rfl (oV (zaa rfl rfl q136) (oA rfl (zw (hL11 _ (t140) h _ (ze 35 rfl rfl (za (j := 6) rfl hI (za (j := 7) rfl hI zd)) k1)))))
      refine zaA (j := 53) h rfl (fun g118 h => ?_) (fun g118 h => ?_)
      ·refine rvt 53 rfl rfl rfl g118 (zf ty26 rfl) (rvt 53 rfl rfl rfl g118 (zW rfl GTyp.f4 zbA rfl (z := y2.fields)) (rvt 53 rfl rfl rfl g118 (zf ty85 rfl) (rvt 53 rfl rfl rfl g118 (zt rfl) (zb h fun y119 hy119 h => rvt 53 rfl rfl rfl g118 (zaz (l := y2.fields) rfl hI rfl sl85 hy119) (rvt 53 rfl rfl rfl g118 (zW rfl GFld.f1 zc9 rfl (z := y119.ty)) (rvt 53 rfl rfl rfl g118 (zf ty3 rfl) (rvt 53 rfl rfl rfl g118 (zf ty26 rfl) ?_)))))))
       refine rvt 53 rfl rfl rfl g118 (zW rfl GTyp.f4 zbA rfl (z := y2.fields)) (rvt 53 rfl rfl rfl g118 (zf ty85 rfl) (rvt 53 rfl rfl rfl g118 (zt rfl) (rvt 53 rfl rfl rfl g118 (zt rfl) (zz h fun q120 h => rvt 53 rfl rfl rfl g118 (zaF rfl rfl q120) (zb h fun y121 hy121 h => rvt 53 rfl rfl rfl g118 (zaz (l := q10.1) rfl zF rfl sl23 hy121) (rvt 53 rfl rfl rfl g118 (zf ty3 rfl) ?_))))))
       refine zb h fun y122 hy122 h => rvt 53 rfl rfl rfl g118 (zaz (l := y2.fields) rfl hI rfl sl85 hy122) (rvt 53 rfl rfl rfl g118 (zW rfl GFld.f1 zc9 rfl (z := y122.ty)) (rvt 53 rfl rfl rfl g118 (zf ty3 rfl) (zb h fun y123 hy123 h => zc2 rfl rfl rfl (dj := 53) rfl g118 (zy (zgX hy123) hT (s2 rfl rfl) .nil (zb h fun y124 hy124 h => zc2 rfl rfl rfl (dj := 53) rfl g118 (zy (zgX hy124) hT (s2 rfl rfl) .nil (zb h fun y125 hy125 h => ?_)))))))
       exact zc2 rfl rfl rfl (dj := 53) rfl g118 (zy (zjb hy125) hT (s2 rfl rfl) .nil (zo rfl (zs rfl g118 rfl) (hJ117 _ () h _ (jk 22 75 rfl rfl rfl))))
      refine rpv 53 rfl rfl rfl g118 (rpv 53 rfl rfl rfl g118 (rpv 53 rfl rfl rfl g118 (rpv 53 rfl rfl rfl g118 (rpv 53 rfl rfl rfl g118 (rpv 53 rfl rfl rfl g118 (rpv 53 rfl rfl rfl g118 (rpv 53 rfl rfl rfl g118 (rpv 53 rfl rfl rfl g118 ?_))))))))
      refine rpv 53 rfl rfl rfl g118 (rpv 53 rfl rfl rfl g118 (rpv 53 rfl rfl rfl g118 (rpv 53 rfl rfl rfl g118 (rpv 53 rfl rfl rfl g118 (rpv 53 rfl rfl rfl g118 (rpv 53 rfl rfl rfl g118 (rpv 53 rfl rfl rfl g118 (rpv 53 rfl rfl rfl g118 ?_))))))))
      exact za4 rfl rfl (dj := 53) rfl g118 (za4 rfl rfl (dj := 53) rfl g118 (za4 rfl rfl (dj := 53) rfl g118 (zo rfl (zr rfl g118 rfl) (hJ117 _ () h _ (jk 22 75 rfl rfl rfl)))))
     refine zaA (j := 49) h rfl (fun g115 h => ?_) (fun g115 h => ?_)
     ·exact rvt 49 rfl rfl rfl g115 (zt rfl) (rvt 49 rfl rfl rfl g115 (zbu rfl rfl) (zo rfl (zs rfl g115 rfl) (hJ114 _ () h _ (jk 3 52 rfl rfl rfl))))
     exact rpv 49 rfl rfl rfl g115 (rpv 49 rfl rfl rfl g115 (zo rfl (zr rfl g115 rfl) (hJ114 _ () h _ (jk 3 52 rfl rfl rfl))))
    refine zaA (j := 43) h rfl (fun g112 h => ?_) (fun g112 h => ?_)
    ·exact rvt 43 rfl rfl rfl g112 (zt rfl) (rvt 43 rfl rfl rfl g112 (zW rfl GTyp.f5 zfr rfl (z := y2.root)) (rvt 43 rfl rfl rfl g112 (zf ty3 rfl) (rvt 43 rfl rfl rfl g112 (zaj rfl rfl) (zo rfl (zs rfl g112 rfl) (hJ111 _ () h _ (jk 5 48 rfl rfl rfl))))))
    exact rpv 43 rfl rfl rfl g112 (rpv 43 rfl rfl rfl g112 (rpv 43 rfl rfl rfl g112 (rpv 43 rfl rfl rfl g112 (zo rfl (zr rfl g112 rfl) (hJ111 _ () h _ (jk 5 48 rfl rfl rfl))))))
   refine zad (zU (eL11 _ _ (zE (zx (wsr (oM rfl (oA rfl (rnf ?_))))))))
   refine zJ ?_
   cases h
   exact zk (.as rfl zF .nil) .nil ⟨rfl, rfl⟩
  refine zB (j := 26) h rfl (fun g9 h => ?_) (fun g9 h => ?_)
  ·exact oK 26 rfl rfl rfl g9 (zW rfl GTyp.f0 zcx rfl (z := y2.kind)) (oK 26 rfl rfl rfl g9 (zf ty3 rfl) (oK 26 rfl rfl rfl g9 (zbo rfl rfl) (oV (zs rfl g9 rfl) (hJ8 _ () h _ (ji 4 30 rfl rfl rfl)))))
  exact oP 26 rfl rfl g9 (oP 26 rfl rfl g9 (oP 26 rfl rfl g9 (oV (zr rfl g9 rfl) (hJ8 _ () h _ (ji 4 30 rfl rfl rfl)))))
 refine zB (j := 21) h rfl (fun g6 h => ?_) (fun g6 h => ?_)
 ·exact oK 21 rfl rfl rfl g6 (zW rfl GTyp.f0 zcx rfl (z := y2.kind)) (oK 21 rfl rfl rfl g6 (zf ty3 rfl) (oK 21 rfl rfl rfl g6 (zbo rfl rfl) (oV (zs rfl g6 rfl) (hJ5 _ () h _ (ji 4 25 rfl rfl rfl)))))
 exact oP 21 rfl rfl g6 (oP 21 rfl rfl g6 (oP 21 rfl rfl g6 (oV (zr rfl g6 rfl) (hJ5 _ () h _ (ji 4 25 rfl rfl rfl)))))


theorem ziq : ∀ {a_x : Int} {a_y : Int} {r : Bool}, zdY a_x a_y = some r → Ctr Tryz.prog 46 [isv (a_x), isv (a_y)] [] (fun R H => R = oneOf [isv (r)] ∧ H = []) := by
 intro a_x a_y r h
 unfold zdY at h
 refine zp Tryz.func46 rfl fun w0 S0 hT => wsr (oA rfl (rnf (wsr (oM rfl (oM rfl (oV (zao rfl rfl) (oA rfl ?_)))))))
 refine rnf (zJ ?_)
 cases h
 exact zk (.tmp rfl .nil) .nil ⟨rfl, rfl⟩


theorem zj7 : ∀ {a_a : (List Int)} {a_b : (List Int)} {r : Bool}, zgj a_a a_b = some r → Ctr Tryz.prog 45 [isv (a_a), isv (a_b), clov 46 []] [] (fun R H => R = oneOf [isv (r)] ∧ H = []) := by
 intro a_a a_b r h
 unfold zgj at h
 refine zp Tryz.func45 rfl fun w0 S0 hT => wsr (oA rfl (rnf (zj (wsr (oM rfl (oV (zaR (l := a_a) rfl hI sl23) (oM rfl ?_)))))))
 refine oV (zaR (l := a_b) rfl hI sl23) (oV (zbo rfl rfl) (rnf (zg h rfl (fun _ h => ?_) (fun _ h => ?_))))
 ·refine wsr (oA rfl (rnf (zJ (zA ?_))))
  cases h
  exact zk (.tmp rfl .nil) .nil ⟨rfl, rfl⟩
 refine wkf (zj (wsr (oA rfl (rnf (zq (zaN (ι := Int) (γ := Unit) (fun q1 g1 => [(7, isv (q1))]) (fun q1 g1 => []) h () (za (j := 7) rfl hI zd) .nil (fun L2 q1 g1 Q11 h hL2 eL2 rL2 => zj (wsr ?_))))))))
 refine oM rfl (oM rfl (oV (zaR (l := a_a) rfl hI sl23) (oV (zaj rfl rfl) (rnf (zg h rfl (fun _ h => ?_) (fun _ h => ?_))))))
 ·refine wkf (zj (zq (zj (zS (.v 0 (.v 1 (.v 2 (.v 3 (.v 4 (.v 5 (.v 6 (.v 7 (.v 8 (.t 9 (.v 10 .nil))))))))))) moOrd (by kernel_rfl) ?_))))
  refine rvm rfl rfl (rvm rfl rfl (rvm rfl rfl (zb h fun y7 hy7 h => zo rfl (zaz (l := a_a) rfl hI rfl sl23 hy7) (zo rfl (zf ty3 rfl) (rvm rfl rfl (rvm rfl rfl (zb h fun y8 hy8 h => ?_)))))))
  refine zo rfl (zaz (l := a_b) rfl hI rfl sl23 hy8) (zo rfl (zf ty3 rfl) (zb h fun y9 hy9 h => zR rfl rfl (zea rfl (s2 rfl rfl) (ziq hy9) hT .nil (fun R H' hR => ?_))))
  obtain ⟨rfl, rfl⟩ := hR
  refine zo rfl (zbq rfl) (zab (zx (zg h rfl (fun _ h => ?_) (fun _ h => ?_))))
  ·refine wsr (oA rfl (rnf (zJ (zH (zA (rL2 _ (zH (zA ?_))))))))
   cases h
   exact zk (.tmp rfl .nil) .nil ⟨rfl, rfl⟩
  refine zac (zi (zx (zh (oM rfl (zz h fun q10 h => oV (zaa rfl rfl q10) (oA rfl (zw ?_)))))))
  exact hL2 _ () h _ (ji 19 7 rfl rfl rfl)
 refine zad (zU (eL2 _ _ (zE (zx (wsr (oA rfl (rnf (zJ ?_))))))))
 cases h
 exact zk (.tmp rfl .nil) .nil ⟨rfl, rfl⟩


theorem zfL : ∀ {a_a : (List Int)} {a_b : (List Int)} {r : Bool}, zdl a_a a_b = some r → Ctr Tryz.prog 15 [isv (a_a), isv (a_b)] [] (fun R H => R = oneOf [isv (r)] ∧ H = []) := by
 intro a_a a_b r h
 unfold zdl at h
 refine zp Tryz.func15 rfl fun w0 S0 hT => wsr (oA rfl (rnf (wsr (oM rfl (oM rfl (zb h fun y1 hy1 h => oT (zy (zj7 hy1) hT (s3 rfl rfl rfl) .nil ?_)))))))
 refine oA rfl (rnf (zJ ?_))
 cases h
 exact zk (.tmp rfl .nil) .nil ⟨rfl, rfl⟩


theorem zfB : ∀ {a_x : Int} {r : Bool}, zcm a_x = some r → Ctr Tryz.prog 81 [isv (a_x)] [] (fun R H => R = oneOf [isv (r)] ∧ H = []) := by
 intro a_x r h
 unfold zcm at h
 refine zp Tryz.func81 rfl fun w0 S0 hT => wsr (oA rfl (rnf (wsr (oM rfl (oM rfl (oV (zbo rfl rfl) (oA rfl ?_)))))))
 refine rnf (zJ ?_)
 cases h
 exact zk (.tmp rfl .nil) .nil ⟨rfl, rfl⟩


theorem zhf : ∀ {a_x : Int} {a_y : Int} {r : Int}, zcq a_x a_y = some r → Ctr Tryz.prog 53 [isv (a_x), isv (a_y)] [] (fun R H => R = oneOf [isv (r)] ∧ H = []) := by
 intro a_x a_y r h
 unfold zcq at h
 refine zp Tryz.func53 rfl fun w0 S0 hT => wsr (oA rfl (rnf (wsr (oM rfl (zb h fun y1 hy1 h => oT (zy (zfB hy1) hT (s1 rfl) .nil (oA rfl ?_)))))))
 refine rnf (wsr (oM rfl (zb h fun y2 hy2 h => oT (zy (zfB hy2) hT (s1 rfl) .nil (oA rfl (rnf (zj (wsr ?_))))))))
 refine oM rfl (rnf (zg h rfl (fun _ h => ?_) (fun _ h => ?_)))
 ·refine zj (wsr (oM rfl (rnf (zg h rfl (fun _ h => ?_) (fun _ h => ?_)))))
  ·refine wsr (oA rfl (rnf (zJ (zA (zA ?_)))))
   cases h
   exact zk (.tmp rfl .nil) .nil ⟨rfl, rfl⟩
  refine wkf (wsr (oA rfl (rnf (zJ (zA ?_)))))
  cases h
  exact zk (.tmp rfl .nil) .nil ⟨rfl, rfl⟩
 refine wkf (zj (wsr (oM rfl (rnf (zg h rfl (fun _ h => ?_) (fun _ h => ?_))))))
 ·refine wsr (oA rfl (rnf (zJ (zA ?_))))
  cases h
  exact zk (.tmp rfl .nil) .nil ⟨rfl, rfl⟩
 refine wkf (zj (wsr (oM rfl (oM rfl (oV (zaj rfl rfl) (rnf (zg h rfl (fun _ h => ?_) (fun _ h => ?_))))))))
 ·refine wsr (oA rfl (rnf (zJ (zA ?_))))
  cases h
  exact zk (.tmp rfl .nil) .nil ⟨rfl, rfl⟩
 refine wkf (zj (wsr (oM rfl (oM rfl (oV (zbu rfl rfl) (rnf (zg h rfl (fun _ h => ?_) (fun _ h => ?_))))))))
 ·refine wsr (oA rfl (rnf (zJ (zA ?_))))
  cases h
  exact zk (.tmp rfl .nil) .nil ⟨rfl, rfl⟩
 refine wkf (wsr (oA rfl (rnf (zJ ?_))))
 cases h
 exact zk (.tmp rfl .nil) .nil ⟨rfl, rfl⟩


theorem zdq : ∀ {a_a : Int} {a_b : Int} {a_a2 : GTyp} {r : Int}, zbs a_a a_b a_a2 = some r → Ctr Tryz.prog 52 [isv (a_a), isv (a_b), immv (a_a2)] [] (fun R H => R = oneOf [isv (r)] ∧ H = []) := by
 intro a_a a_b a_a2 r h
 unfold zbs at h
 refine zp Tryz.func52 rfl fun w0 S0 hT => wsr (oA rfl (rnf (zj (zS (.v 0 (.v 1 (.v 2 (.v 3 (.v 4 (.v 5 (.v 6 (.v 7 (.v 8 (.v 9 (.v 10 (.v 11 (.t 12 (.v 13 .nil)))))))))))))) moOrd (by kernel_rfl) ?_))))
 refine zo rfl (zW rfl GTyp.f3 zft rfl (z := a_a2.items)) (zo rfl (zf ty84 rfl) (rvm rfl rfl (zb h fun y1 hy1 h => zo rfl (zaz (l := a_a2.items) rfl hI rfl sl84 hy1) (zo rfl (zW rfl GItem.f1 zc6 rfl (z := y1.number)) (zo rfl (zf ty2 rfl) (zo rfl (zW rfl GTyp.f3 zft rfl (z := a_a2.items)) (zo rfl (zf ty84 rfl) ?_)))))))
 refine rvm rfl rfl (zb h fun y2 hy2 h => zo rfl (zaz (l := a_a2.items) rfl hI rfl sl84 hy2) (zo rfl (zW rfl GItem.f1 zc6 rfl (z := y2.number)) (zo rfl (zf ty2 rfl) (zb h fun y3 hy3 h => zR rfl rfl (zy (zhf hy3) hT (s2 rfl rfl) .nil (zo rfl (zaP rfl) (zab ?_)))))))
 refine zx (zJ ?_)
 cases h
 exact zk (.tmp rfl .nil) .nil ⟨rfl, rfl⟩


theorem zb6 : ∀ {zae : (List Int)} {a_a : Int} {a_b : Int} {zT : GTyp} {zD : Vt} {r : (List Int)}, za5 zae a_a a_b zT = some r → Ctr Tryz.prog 156 [vecv zD (zae.length), isv (a_a), isv (a_b), clov 52 [immv (zT)]] [vecE zD (zae : List Int)] (fun R H => R = oneOf [] ∧ H = [vecE zD (r)]) := by
 intro zae a_a a_b zT zD r h
 unfold za5 at h
 refine zp Tryz.func156 rfl fun w0 S0 hT => wsr (oM rfl (zz h fun q1 h => oV (zaa rfl rfl q1) (oA rfl (rnf (zq (zaN (ι := (List Int) × Int) (γ := Unit) (fun q2 g2 => [(8, isv (q2.2)), (0, vecv zD (q2.1.length))]) (fun q2 g2 => [vecE zD (q2.1 : List Int)]) h () (za (j := 8) rfl hI (za (j := 0) rfl (vecvE (by first | rfl | simp)) zd)) k1 (fun L3 q2 g2 Q94 h hL3 eL3 rL3 => ?_)))))))
 refine zj (wsr (oM rfl (oM rfl (oV (zaj rfl rfl) (rnf (zg h rfl (fun _ h => ?_) (fun _ h => ?_)))))))
 ·refine wkf (zj (zq (wsr (oM rfl (oA rfl (rnf (zq (zaN (ι := (List Int) × Int) (γ := Unit) (fun q49 g49 => [(9, isv (q49.2)), (0, vecv zD (q49.1.length))]) (fun q49 g49 => [vecE zD (q49.1 : List Int)]) h () (za (j := 9) rfl hI (za (j := 0) rfl (vecvE (by first | rfl | simp)) zd)) k1 (fun L50 q49 g49 Q93 h hL50 eL50 rL50 => ?_)))))))))
  refine zj (zj (zgG 0 .here rfl (by first | rfl | simp) (fun o72 hn73 => ?_)))
  refine zS (.v 0 (.v 1 (.v 2 (.v 3 (.v 4 (.v 5 (.v 6 (.v 7 (.v 8 (.v 9 (.v 10 (.v 11 (.v 12 (.v 13 (.t 14 (.v 15 (.v 16 .nil))))))))))))))))) moOrd (by kernel_rfl) ?_
  refine rvm rfl rfl (rvm rfl rfl (zo rfl (zbu rfl rfl) (rvm rfl rfl (zc8 (jb 34) je .nil h 13 rfl (fun q74 g74 h => ?_) (fun J75 h hJ75 => ?_)))))
  ·refine zab (zde 0 hn73 rfl (zx (zg h rfl (fun _ h => ?_) (fun _ h => ?_))))
   ·refine wkf (zj (zq (zS (.v 0 (.v 1 (.v 2 (.v 3 (.v 4 (.v 5 (.v 6 (.v 7 (.v 8 (.v 10 (.v 11 (.v 12 (.alt 9 (.t 13 (.v 14 (.t 15 (.v 16 (.t 17 .nil))))) (.t 13 (.t 9 (.v 14 (.t 15 (.v 16 (.t 17 .nil))))))))))))))))))) moOrd (by kernel_rfl) ?_)))
    refine rvm rfl rfl (rvm rfl rfl (rvm rfl rfl (rvm rfl rfl (zz h fun q81 h => zo rfl (zaF rfl rfl q81) (rvm rfl rfl (rvm rfl rfl (zz h fun q82 h => ?_)))))))
    refine zo rfl (zaF rfl rfl q82) (zI h fun q83 h => zo rfl (zam (α := Int) sl23 rfl rfl q83.1 q83.2) (rvm rfl rfl (rvm rfl rfl (zI h fun q84 h => zo rfl (zam (α := Int) sl23 rfl rfl q84.1 q84.2) (zb h fun y85 hy85 h => zb h fun y86 hy86 h => ?_)))))
    refine zI h fun q87 h => zb h fun y88 hy88 h => zI h fun q89 h => zb h fun y90 hy90 h => zz h fun q91 h => zbv ?_ ?_
    ·refine zR rfl rfl (zat ty3 rfl .here hy85 ?_)
     refine zR rfl rfl (zat ty3 rfl .here hy86 ?_)
     refine zo rfl (zam (α := Int) sl23 rfl rfl q87.1 q87.2) (zR rfl rfl (zas ty3 rfl rfl .here hy88 (zo rfl (zam (α := Int) sl23 rfl rfl q89.1 q89.2) (zR rfl rfl (zas ty3 rfl rfl .here hy90 (zab (zi (zx (zh (oM rfl ?_))))))))))
     exact oV (zaF rfl rfl q91) (oA rfl (zw (hL50 _ () h _ (ze 28 rfl rfl (za (j := 9) rfl hI (za (j := 0) rfl (vecvE (by first | rfl | simp)) zd)) k1))))
    refine zR rfl rfl (zat ty3 rfl .here hy86 ?_)
    refine zR rfl rfl (zat ty3 rfl .here hy85 ?_)
    refine zo rfl (zam (α := Int) sl23 rfl rfl q87.1 q87.2) (zR rfl rfl (zas ty3 rfl rfl .here hy88 (zo rfl (zam (α := Int) sl23 rfl rfl q89.1 q89.2) (zR rfl rfl (zas ty3 rfl rfl .here hy90 (zab (zi (zx (zh (oM rfl ?_))))))))))
    exact oV (zaF rfl rfl q91) (oA rfl (zw (hL50 _ () h _ (ze 28 rfl rfl (za (j := 9) rfl hI (za (j := 0) rfl (vecvE (by first | rfl | simp)) zd)) k1))))
   refine zad (zU (eL50 _ _ (zE (zi (zx (zh (oM rfl (zz h fun q92 h => ?_))))))))
   exact oV (zaa rfl rfl q92) (oA rfl (zw (hL3 _ () h _ (ze 19 rfl rfl (za (j := 8) rfl hI (za (j := 0) rfl (vecvE (by first | rfl | simp)) zd)) k1))))
  refine zaA (j := 21) h rfl (fun g76 h => ?_) (fun g76 h => ?_)
  ·refine rvt 21 rfl rfl rfl g76 (zt rfl) (rvt 21 rfl rfl rfl g76 (zt rfl) (rvt 21 rfl rfl rfl g76 (zt rfl) (zb h fun y77 hy77 h => rvt 21 rfl rfl rfl g76 (zeS (α := Int) sl23 rfl rfl hy77) (rvt 21 rfl rfl rfl g76 (zeR ty3 rfl zcB) (rvt 21 rfl rfl rfl g76 (zt rfl) (rvt 21 rfl rfl rfl g76 (zt rfl) (zz h fun q78 h => ?_)))))))
   refine rvt 21 rfl rfl rfl g76 (zaF rfl rfl q78) (zb h fun y79 hy79 h => rvt 21 rfl rfl rfl g76 (zeS (α := Int) sl23 rfl rfl hy79) (rvt 21 rfl rfl rfl g76 (zeR ty3 rfl zcB) (zb h fun y80 hy80 h => zc2 rfl rfl rfl (dj := 21) rfl g76 (zea rfl (s2 rfl rfl) (zdq hy80) hT .nil (fun R H' hR => ?_)))))
   obtain ⟨rfl, rfl⟩ := hR
   exact rvt 21 rfl rfl rfl g76 (zaj rfl rfl) (zo rfl (zs rfl g76 rfl) (hJ75 _ () h _ (ji 13 34 rfl rfl rfl)))
  refine rpv 21 rfl rfl rfl g76 (rpv 21 rfl rfl rfl g76 (rpv 21 rfl rfl rfl g76 (rpv 21 rfl rfl rfl g76 (rpv 21 rfl rfl rfl g76 (rpv 21 rfl rfl rfl g76 (rpv 21 rfl rfl rfl g76 (rpv 21 rfl rfl rfl g76 (rpv 21 rfl rfl rfl g76 ?_))))))))
  exact rpv 21 rfl rfl rfl g76 (za4 rfl rfl (dj := 21) rfl g76 (rpv 21 rfl rfl rfl g76 (zo rfl (zr rfl g76 rfl) (hJ75 _ () h _ (ji 13 34 rfl rfl rfl)))))
 refine zad (zU (eL3 _ _ (zE (zan .nil k1 ?_))))
 cases h
 exact ⟨rfl, rfl⟩


theorem zbG : ∀ {zae : (List Int)} {a_a : Int} {a_b : Int} {a_n_ : Int} {zT : GTyp} {zD : Vt} {r : (List Int)}, zaW zae a_a a_b a_n_ zT = some r → Ctr Tryz.prog 187 [vecv zD (zae.length), isv (a_a), isv (a_b), isv (a_n_), clov 52 [immv (zT)]] [vecE zD (zae : List Int)] (fun R H => R = oneOf [] ∧ H = [vecE zD (r)]) := by
 intro zae a_a a_b a_n_ zT zD r h
 unfold zaW at h
 refine zp Tryz.func187 rfl fun w0 S0 hT => wsr (oA rfl (rnf (zq (zaN (ι := (List Int) × Int) (γ := Unit) (fun q1 g1 => [(10, isv (q1.2)), (0, vecv zD (q1.1.length))]) (fun q1 g1 => [vecE zD (q1.1 : List Int)]) h () (za (j := 10) rfl hI (za (j := 0) rfl (vecvE (by first | rfl | simp)) zd)) k1 (fun L2 q1 g1 Q42 h hL2 eL2 rL2 => ?_)))))
 refine zj (wsr (oM rfl (oM rfl (oV (zaj rfl rfl) (rnf (zg h rfl (fun _ h => ?_) (fun _ h => ?_)))))))
 ·refine wkf (zj (zq (zS (.v 0 (.v 1 (.v 2 (.v 3 (.v 4 (.v 5 (.v 6 (.v 7 (.v 8 (.v 9 (.v 10 (.v 11 (.v 12 (.v 14 (.v 15 (.v 16 (.v 17 (.v 18 (.alt 13 (.t 19 (.v 20 (.t 21 (.v 22 (.t 23 .nil))))) (.t 19 (.t 13 (.v 20 (.t 21 (.v 22 (.t 23 .nil))))))))))))))))))))))))) moOrd (by kernel_rfl) ?_)))
  refine rvm rfl rfl (rvm rfl rfl (rvm rfl rfl (zz h fun q29 h => zo rfl (zaa rfl rfl q29) (rvm rfl rfl (rvm rfl rfl (rvm rfl rfl (zz h fun q30 h => ?_)))))))
  refine zo rfl (zaa rfl rfl q30) (rvm rfl rfl (rvm rfl rfl (rvm rfl rfl (zz h fun q31 h => zo rfl (zaa rfl rfl q31) (zI h fun q32 h => zo rfl (zam (α := Int) sl23 rfl rfl q32.1 q32.2) (rvm rfl rfl ?_))))))
  refine rvm rfl rfl (rvm rfl rfl (zz h fun q33 h => zo rfl (zaa rfl rfl q33) (zI h fun q34 h => zo rfl (zam (α := Int) sl23 rfl rfl q34.1 q34.2) (zb h fun y35 hy35 h => zb h fun y36 hy36 h => zI h fun q37 h => ?_))))
  refine zb h fun y38 hy38 h => zI h fun q39 h => zb h fun y40 hy40 h => zz h fun q41 h => zbv ?_ ?_
  ·refine zR rfl rfl (zat ty3 rfl .here hy35 ?_)
   refine zR rfl rfl (zat ty3 rfl .here hy36 ?_)
   refine zo rfl (zam (α := Int) sl23 rfl rfl q37.1 q37.2) (zR rfl rfl (zas ty3 rfl rfl .here hy38 (zo rfl (zam (α := Int) sl23 rfl rfl q39.1 q39.2) (zR rfl rfl (zas ty3 rfl rfl .here hy40 (zab (zi (zx (zh (oM rfl ?_))))))))))
   exact oV (zaa rfl rfl q41) (oA rfl (zw (hL2 _ () h _ (ze 30 rfl rfl (za (j := 10) rfl hI (za (j := 0) rfl (vecvE (by first | rfl | simp)) zd)) k1))))
  refine zR rfl rfl (zat ty3 rfl .here hy36 ?_)
  refine zR rfl rfl (zat ty3 rfl .here hy35 ?_)
  refine zo rfl (zam (α := Int) sl23 rfl rfl q37.1 q37.2) (zR rfl rfl (zas ty3 rfl rfl .here hy38 (zo rfl (zam (α := Int) sl23 rfl rfl q39.1 q39.2) (zR rfl rfl (zas ty3 rfl rfl .here hy40 (zab (zi (zx (zh (oM rfl ?_))))))))))
  exact oV (zaa rfl rfl q41) (oA rfl (zw (hL2 _ () h _ (ze 30 rfl rfl (za (j := 10) rfl hI (za (j := 0) rfl (vecvE (by first | rfl | simp)) zd)) k1))))
 refine zad (zU (eL2 _ _ (zE (zan .nil k1 ?_))))
 cases h
 exact ⟨rfl, rfl⟩


theorem zeL : ∀ {zae : (List Int)} {a_a : Int} {a_m : Int} {a_b : Int} {zT : GTyp} {zD : Vt} {r : (List Int)}, zcg zae a_a a_m a_b zT = some r → Ctr Tryz.prog 177 [vecv zD (zae.length), isv (a_a), isv (a_m), isv (a_b), clov 52 [immv (zT)]] [vecE zD (zae : List Int)] (fun R H => R = oneOf [] ∧ H = [vecE zD (r)]) := by
 intro zae a_a a_m a_b zT zD r h
 unfold zcg at h
 refine zp Tryz.func177 rfl fun w0 S0 hT => wsr (oM rfl (oM rfl (zz h fun q1 h => oV (zaF rfl rfl q1) (oA rfl (rnf (wsr ?_))))))
 refine oM rfl (oM rfl (zz h fun q2 h => oV (zaF rfl rfl q2) (oA rfl (rnf (zj (zq (zaN (ι := (List Int) × Int × Int) (γ := Unit) (fun q3 g3 => [(10, isv (q3.2.1)), (11, isv (q3.2.2)), (0, vecv zD (q3.1.length))]) (fun q3 g3 => [vecE zD (q3.1 : List Int)]) h () (za (j := 10) rfl hI (za (j := 11) rfl hI (za (j := 0) rfl (vecvE (by first | rfl | simp)) zd))) k1 (fun L4 q3 g3 Q31 h hL4 eL4 rL4 => ?_))))))))
 refine zj (wsr (oM rfl (oM rfl (oV (zbo rfl rfl) (rnf (zg h rfl (fun _ h => ?_) (fun _ h => ?_)))))))
 ·refine wkf (zq (wsr (oM rfl (oM rfl (oV (zbu rfl rfl) (rnf (zg h rfl (fun _ h => ?_) (fun _ h => ?_))))))))
  ·refine wsr (oM rfl (oM rfl (oM rfl (zz h fun q18 h => oV (zaF rfl rfl q18) (oM rfl (oM rfl (oM rfl ?_)))))))
   refine zb h fun y19 hy19 h => oT (zy (zbG hy19) hT (.cons rfl (fun _ _ h => vecvE (by first | rfl | simp) _ _ h) (s4 rfl rfl rfl rfl)) k1 ?_)
   refine zI h fun q20 h => zG (zO 0 rfl (vecvE q20.symm)) (zG (zO 24 rfl (vecvE q20.symm)) (rnf (zh (oM rfl (oM rfl (zz h fun q21 h => oV (zaF rfl rfl q21) ?_))))))
   exact oA rfl (zw (zi (hL4 _ () h _ (ze 23 rfl rfl (za (j := 10) rfl hI (za (j := 11) rfl hI (za (j := 0) rfl (vecvE (by first | rfl | simp)) zd))) k1))))
  refine wsr (oM rfl (oM rfl (oM rfl (zz h fun q22 h => oV (zaF rfl rfl q22) (oM rfl (oM rfl (zz h fun q23 h => ?_)))))))
  refine oV (zaa rfl rfl q23) (oM rfl (zz h fun q24 h => oV (zaF rfl rfl q24) (oM rfl (oM rfl (zb h fun y25 hy25 h => oT (zy (zbG hy25) hT (.cons rfl (fun _ _ h => vecvE (by first | rfl | simp) _ _ h) (s4 rfl rfl rfl rfl)) k1 ?_))))))
  refine zI h fun q26 h => zG (zO 0 rfl (vecvE q26.symm)) (zG (zO 35 rfl (vecvE q26.symm)) (rnf (zh (oM rfl (oM rfl (zz h fun q27 h => oV (zaF rfl rfl q27) ?_))))))
  exact oA rfl (zw (zi (hL4 _ () h _ (ze 27 rfl rfl (za (j := 10) rfl hI (za (j := 11) rfl hI (za (j := 0) rfl (vecvE (by first | rfl | simp)) zd))) k1))))
 refine zad (zU (eL4 _ _ (zE (zx (zh (oM rfl (oM rfl (oM rfl ?_))))))))
 refine zz h fun q28 h => oV (zaF rfl rfl q28) (oM rfl (oM rfl (oM rfl (zb h fun y29 hy29 h => oT (zy (zbG hy29) hT (.cons rfl (fun _ _ h => vecvE (by first | rfl | simp) _ _ h) (s4 rfl rfl rfl rfl)) k1 ?_)))))
 refine zI h fun q30 h => zG (zO 0 rfl (vecvE q30.symm)) (zG (zO 50 rfl (vecvE q30.symm)) (zw (zan .nil k1 ?_)))
 cases h
 exact ⟨rfl, rfl⟩


def zbJ (f' : (List Int) → Int → Int → Int → GTyp → Option ((List Int))) : Prop :=
 ∀ {zae : (List Int)} {a_a : Int} {a_m : Int} {a_b : Int} {zT : GTyp} {zD : Vt} {r : (List Int)}, f' zae a_a a_m a_b zT = some r → Ctr Tryz.prog 157 [vecv zD (zae.length), isv (a_a), isv (a_m), isv (a_b), clov 52 [immv (zT)]] [vecE zD (zae : List Int)] (fun R H => R = oneOf [] ∧ H = [vecE zD (r)])
theorem zei {zaX : (List Int) → Int → Int → Int → GTyp → Option ((List Int))} (zcN : zbJ zaX) : ∀ {zae : (List Int)} {a_a : Int} {a_m : Int} {a_b : Int} {zT : GTyp} {zD : Vt} {r : (List Int)}, zbN zaX zae a_a a_m a_b zT = some r → Ctr Tryz.prog 157 [vecv zD (zae.length), isv (a_a), isv (a_m), isv (a_b), clov 52 [immv (zT)]] [vecE zD (zae : List Int)] (fun R H => R = oneOf [] ∧ H = [vecE zD (r)]) := by
 intro zae a_a a_m a_b zT zD r h
 unfold zbN at h
 refine zp Tryz.func157 rfl fun w0 S0 hT => zj (wsr (oM rfl (oM rfl (zz h fun q1 h => oV (zaF rfl rfl q1) (oV (zao rfl rfl) (rnf ?_))))))
 refine zg h rfl (fun _ h => ?_) (fun _ h => ?_)
 ·refine wsr (oM rfl (oA rfl (rnf (wsr (oM rfl (oA rfl (rnf (zj ?_))))))))
  refine zq (zaN (ι := (List Int) × Int × Int) (γ := Unit) (fun q2 g2 => [(10, isv (q2.2.1)), (11, isv (q2.2.2)), (0, vecv zD (q2.1.length))]) (fun q2 g2 => [vecE zD (q2.1 : List Int)]) h () (za (j := 10) rfl hI (za (j := 11) rfl hI (za (j := 0) rfl (vecvE (by first | rfl | simp)) zd))) k1 (fun L3 q2 g2 Q145 h hL3 eL3 rL3 => ?_))
  refine zj (wsr (oM rfl (oM rfl (oV (zaj rfl rfl) (rnf (zg h rfl (fun _ h => ?_) (fun _ h => ?_)))))))
  ·refine wkf (zq (wsr (oM rfl (oM rfl (zz h fun q98 h => oV (zaa rfl rfl q98) (oV (ziu Tryz.underlying3 Tryz.underlying39 rfl) (oV (zfE (q := (1 : UInt64)) rfl rfl (by decide)) ?_)))))))
   refine zz h fun q99 h => oV (zfI Tryz.underlying39 Tryz.underlying3 rfl q99) (oA rfl (rnf (zj (zgG 0 .here rfl (by first | rfl | simp) (fun o100 hn101 => ?_)))))
   refine zS (.v 0 (.v 1 (.v 2 (.v 3 (.v 4 (.v 5 (.v 6 (.v 7 (.v 8 (.t 9 (.v 10 .nil))))))))))) moOrd (by kernel_rfl) ?_
   refine rvm rfl rfl (rvm rfl rfl (rvm rfl rfl (zb h fun y102 hy102 h => zo rfl (zeS (α := Int) sl23 rfl rfl hy102) (zo rfl (zeR ty3 rfl zcB) (rvm rfl rfl (rvm rfl rfl (zb h fun y103 hy103 h => ?_)))))))
   refine zo rfl (zeS (α := Int) sl23 rfl rfl hy103) (zo rfl (zeR ty3 rfl zcB) (zb h fun y104 hy104 h => zR rfl rfl (zea rfl (s2 rfl rfl) (zdq hy104) hT .nil (fun R H' hR => ?_))))
   obtain ⟨rfl, rfl⟩ := hR
   refine zo rfl (zaj rfl rfl) (zab (zde 0 hn101 rfl (zx (zg h rfl (fun _ h => ?_) (fun _ h => ?_)))))
   ·exact zh (oM rfl (zz h fun q105 h => oV (zaa rfl rfl q105) (oA rfl (zw (zi (hL3 _ () h _ (ze 29 rfl rfl (za (j := 10) rfl hI (za (j := 11) rfl hI (za (j := 0) rfl (vecvE (by first | rfl | simp)) zd))) k1)))))))
   exact zh (oM rfl (oA rfl (zw (zi (hL3 _ () h _ (ze 28 rfl rfl (za (j := 10) rfl hI (za (j := 11) rfl hI (za (j := 0) rfl (vecvE (by first | rfl | simp)) zd))) k1))))))
  refine zad (zU (eL3 _ _ (zE (zx (zj (wsr (oM rfl (oA rfl ?_))))))))
  refine rnf (zq (zaN (ι := (List Int) × Int) (γ := Unit) (fun q106 g106 => [(13, isv (q106.2)), (0, vecv zD (q106.1.length))]) (fun q106 g106 => [vecE zD (q106.1 : List Int)]) h () (za (j := 13) rfl hI (za (j := 0) rfl (vecvE (by first | rfl | simp)) zd)) k1 (fun L107 q106 g106 Q144 h hL107 eL107 rL107 => ?_)))
  refine zj (wsr (oM rfl (oM rfl (zz h fun q132 h => oV (zaF rfl rfl q132) (oV (zaj rfl rfl) (rnf (zg h rfl (fun _ h => ?_) (fun _ h => ?_))))))))
  ·refine wkf (zj (zq (zS (.v 0 (.v 1 (.v 2 (.v 3 (.v 4 (.v 5 (.v 6 (.v 7 (.v 8 (.v 10 (.v 11 (.v 12 (.alt 9 (.t 13 (.v 14 (.t 15 (.v 16 (.t 17 .nil))))) (.t 13 (.t 9 (.v 14 (.t 15 (.v 16 (.t 17 .nil))))))))))))))))))) moOrd (by kernel_rfl) ?_)))
   refine rvm rfl rfl (rvm rfl rfl (rvm rfl rfl (rvm rfl rfl (zz h fun q133 h => zo rfl (zaa rfl rfl q133) (rvm rfl rfl (rvm rfl rfl (zz h fun q134 h => ?_)))))))
   refine zo rfl (zaa rfl rfl q134) (zI h fun q135 h => zo rfl (zam (α := Int) sl23 rfl rfl q135.1 q135.2) (rvm rfl rfl (rvm rfl rfl (zI h fun q136 h => zo rfl (zam (α := Int) sl23 rfl rfl q136.1 q136.2) (zb h fun y137 hy137 h => zb h fun y138 hy138 h => ?_)))))
   refine zI h fun q139 h => zb h fun y140 hy140 h => zI h fun q141 h => zb h fun y142 hy142 h => zz h fun q143 h => zbv ?_ ?_
   ·refine zR rfl rfl (zat ty3 rfl .here hy137 ?_)
    refine zR rfl rfl (zat ty3 rfl .here hy138 ?_)
    refine zo rfl (zam (α := Int) sl23 rfl rfl q139.1 q139.2) (zR rfl rfl (zas ty3 rfl rfl .here hy140 (zo rfl (zam (α := Int) sl23 rfl rfl q141.1 q141.2) (zR rfl rfl (zas ty3 rfl rfl .here hy142 (zab (zi (zx (zh (oM rfl ?_))))))))))
    exact oV (zaa rfl rfl q143) (oA rfl (zw (hL107 _ () h _ (ze 25 rfl rfl (za (j := 13) rfl hI (za (j := 0) rfl (vecvE (by first | rfl | simp)) zd)) k1))))
   refine zR rfl rfl (zat ty3 rfl .here hy138 ?_)
   refine zR rfl rfl (zat ty3 rfl .here hy137 ?_)
   refine zo rfl (zam (α := Int) sl23 rfl rfl q139.1 q139.2) (zR rfl rfl (zas ty3 rfl rfl .here hy140 (zo rfl (zam (α := Int) sl23 rfl rfl q141.1 q141.2) (zR rfl rfl (zas ty3 rfl rfl .here hy142 (zab (zi (zx (zh (oM rfl ?_))))))))))
   exact oV (zaa rfl rfl q143) (oA rfl (zw (hL107 _ () h _ (ze 25 rfl rfl (za (j := 13) rfl hI (za (j := 0) rfl (vecvE (by first | rfl | simp)) zd)) k1))))
  refine zad (zU (eL107 _ _ (zE (zx (zJ (zA ?_))))))
  cases h
  exact zk .nil k1 ⟨rfl, rfl⟩
 refine wkf (zj (wsr (oM rfl (oM rfl (zz h fun q146 h => oV (zaF rfl rfl q146) (oV (zao rfl rfl) (rnf ?_)))))))
 refine zg h rfl (fun _ h => ?_) (fun _ h => ?_)
 ·refine wsr (oM rfl (oA rfl (rnf (wsr (oM rfl (oA rfl (rnf (zj ?_))))))))
  refine zq (zaN (ι := (List Int) × Int × Int) (γ := Unit) (fun q147 g147 => [(14, isv (q147.2.1)), (15, isv (q147.2.2)), (0, vecv zD (q147.1.length))]) (fun q147 g147 => [vecE zD (q147.1 : List Int)]) h () (za (j := 14) rfl hI (za (j := 15) rfl hI (za (j := 0) rfl (vecvE (by first | rfl | simp)) zd))) k1 (fun L148 q147 g147 Q281 h hL148 eL148 rL148 => ?_))
  refine zj (wsr (oM rfl (oM rfl (oV (zaj rfl rfl) (rnf (zg h rfl (fun _ h => ?_) (fun _ h => ?_)))))))
  ·refine wkf (zq (wsr (oM rfl (oM rfl (zz h fun q237 h => oV (zaa rfl rfl q237) (oV (ziu Tryz.underlying3 Tryz.underlying39 rfl) (oV (zfE (q := (1 : UInt64)) rfl rfl (by decide)) ?_)))))))
   refine zz h fun q238 h => oV (zfI Tryz.underlying39 Tryz.underlying3 rfl q238) (oA rfl (rnf (zj (zgG 0 .here rfl (by first | rfl | simp) (fun o239 hn240 => ?_)))))
   refine zS (.v 0 (.v 1 (.v 2 (.v 3 (.v 4 (.v 5 (.v 6 (.v 7 (.v 8 (.t 9 (.v 10 (.v 11 .nil)))))))))))) moOrd (by kernel_rfl) ?_
   refine rvm rfl rfl (rvm rfl rfl (rvm rfl rfl (zb h fun y241 hy241 h => zo rfl (zeS (α := Int) sl23 rfl rfl hy241) (zo rfl (zeR ty3 rfl zcB) (rvm rfl rfl (rvm rfl rfl (zb h fun y242 hy242 h => ?_)))))))
   refine zo rfl (zeS (α := Int) sl23 rfl rfl hy242) (zo rfl (zeR ty3 rfl zcB) (zb h fun y243 hy243 h => zR rfl rfl (zea rfl (s2 rfl rfl) (zdq hy243) hT .nil (fun R H' hR => ?_))))
   obtain ⟨rfl, rfl⟩ := hR
   refine zo rfl (zaj rfl rfl) (zo rfl (zbq rfl) (zab (zde 0 hn240 rfl (zx (zg h rfl (fun _ h => ?_) (fun _ h => ?_))))))
   ·exact zh (oM rfl (zz h fun q244 h => oV (zaa rfl rfl q244) (oA rfl (zw (zi (hL148 _ () h _ (ze 30 rfl rfl (za (j := 14) rfl hI (za (j := 15) rfl hI (za (j := 0) rfl (vecvE (by first | rfl | simp)) zd))) k1)))))))
   exact zh (oM rfl (oA rfl (zw (zi (hL148 _ () h _ (ze 29 rfl rfl (za (j := 14) rfl hI (za (j := 15) rfl hI (za (j := 0) rfl (vecvE (by first | rfl | simp)) zd))) k1))))))
  refine zad (zU (eL148 _ _ (zE (zx (zj (wsr (oM rfl (oA rfl ?_))))))))
  refine rnf (zq (zaN (ι := (List Int) × Int) (γ := Unit) (fun q245 g245 => [(17, isv (q245.2)), (0, vecv zD (q245.1.length))]) (fun q245 g245 => [vecE zD (q245.1 : List Int)]) h () (za (j := 17) rfl hI (za (j := 0) rfl (vecvE (by first | rfl | simp)) zd)) k1 (fun L246 q245 g245 Q280 h hL246 eL246 rL246 => ?_)))
  refine zj (wsr (oM rfl (oM rfl (oV (zbu rfl rfl) (rnf (zg h rfl (fun _ h => ?_) (fun _ h => ?_)))))))
  ·refine wkf (zj (zq (zS (.v 0 (.v 1 (.v 2 (.v 3 (.v 4 (.v 5 (.v 6 (.v 7 (.v 8 (.v 10 (.v 11 (.v 12 (.alt 9 (.t 13 (.v 14 (.t 15 (.v 16 (.t 17 .nil))))) (.t 13 (.t 9 (.v 14 (.t 15 (.v 16 (.t 17 .nil))))))))))))))))))) moOrd (by kernel_rfl) ?_)))
   refine rvm rfl rfl (rvm rfl rfl (rvm rfl rfl (rvm rfl rfl (zz h fun q269 h => zo rfl (zaF rfl rfl q269) (rvm rfl rfl (rvm rfl rfl (zz h fun q270 h => ?_)))))))
   refine zo rfl (zaF rfl rfl q270) (zI h fun q271 h => zo rfl (zam (α := Int) sl23 rfl rfl q271.1 q271.2) (rvm rfl rfl (rvm rfl rfl (zI h fun q272 h => zo rfl (zam (α := Int) sl23 rfl rfl q272.1 q272.2) (zb h fun y273 hy273 h => zb h fun y274 hy274 h => ?_)))))
   refine zI h fun q275 h => zb h fun y276 hy276 h => zI h fun q277 h => zb h fun y278 hy278 h => zz h fun q279 h => zbv ?_ ?_
   ·refine zR rfl rfl (zat ty3 rfl .here hy273 ?_)
    refine zR rfl rfl (zat ty3 rfl .here hy274 ?_)
    refine zo rfl (zam (α := Int) sl23 rfl rfl q275.1 q275.2) (zR rfl rfl (zas ty3 rfl rfl .here hy276 (zo rfl (zam (α := Int) sl23 rfl rfl q277.1 q277.2) (zR rfl rfl (zas ty3 rfl rfl .here hy278 (zab (zi (zx (zh (oM rfl ?_))))))))))
    exact oV (zaF rfl rfl q279) (oA rfl (zw (hL246 _ () h _ (ze 24 rfl rfl (za (j := 17) rfl hI (za (j := 0) rfl (vecvE (by first | rfl | simp)) zd)) k1))))
   refine zR rfl rfl (zat ty3 rfl .here hy274 ?_)
   refine zR rfl rfl (zat ty3 rfl .here hy273 ?_)
   refine zo rfl (zam (α := Int) sl23 rfl rfl q275.1 q275.2) (zR rfl rfl (zas ty3 rfl rfl .here hy276 (zo rfl (zam (α := Int) sl23 rfl rfl q277.1 q277.2) (zR rfl rfl (zas ty3 rfl rfl .here hy278 (zab (zi (zx (zh (oM rfl ?_))))))))))
   exact oV (zaF rfl rfl q279) (oA rfl (zw (hL246 _ () h _ (ze 24 rfl rfl (za (j := 17) rfl hI (za (j := 0) rfl (vecvE (by first | rfl | simp)) zd)) k1))))
  refine zad (zU (eL246 _ _ (zE (zx (zJ (zA ?_))))))
  cases h
  exact zk .nil k1 ⟨rfl, rfl⟩
 refine wkf (wsr (oM rfl (oM rfl (zz h fun q282 h => oV (zaa rfl rfl q282) (oV (ziu Tryz.underlying3 Tryz.underlying39 rfl) (oV (zfE (q := (1 : UInt64)) rfl rfl (by decide)) ?_))))))
 refine zz h fun q283 h => oV (zfI Tryz.underlying39 Tryz.underlying3 rfl q283) (oA rfl (rnf (wsr (oM rfl (oM rfl (zz h fun q284 h => oV (zaa rfl rfl q284) ?_))))))
 refine oA rfl (rnf (wsr (oA rfl (oA rfl (rnf (zj (wsr (oM rfl ?_))))))))
 refine oM rfl (oV (zbu rfl rfl) (rnf (zdB (ι := Int × Int) (γ := Unit) (fun q285 g285 => [(20, isv (q285.1)), (21, isv (q285.2))]) (fun q285 g285 => []) .nil h (fun q285 g285 h => ?_) (fun J286 h hJ286 => ?_))))
 ·refine wsr (oM rfl (zz h fun q288 h => oV (zaF rfl rfl q288) (oA rfl (rnf (zj (zq (zaN (ι := (List Int) × Int × Int) (γ := Unit) (fun q289 g289 => [(20, isv (q289.2.1)), (21, isv (q289.2.2)), (0, vecv zD (q289.1.length))]) (fun q289 g289 => [vecE zD (q289.1 : List Int)]) h () (za (j := 20) rfl hI (za (j := 21) rfl hI (za (j := 0) rfl (vecvE (by first | rfl | simp)) zd))) k1 (fun L290 q289 g289 Q378 h hL290 eL290 rL290 => ?_))))))))
  refine zj (wsr (oM rfl (oM rfl (oV (zaj rfl rfl) (rnf (zg h rfl (fun _ h => ?_) (fun _ h => ?_)))))))
  ·refine wkf (zq (wsr (oM rfl (oM rfl (zz h fun q349 h => oV (zaa rfl rfl q349) (oV (ziu Tryz.underlying3 Tryz.underlying39 rfl) (oV (zfE (q := (1 : UInt64)) rfl rfl (by decide)) ?_)))))))
   refine zz h fun q350 h => oV (zfI Tryz.underlying39 Tryz.underlying3 rfl q350) (oA rfl (rnf (zj (zgG 0 .here rfl (by first | rfl | simp) (fun o351 hn352 => ?_)))))
   refine zS (.v 0 (.v 1 (.v 2 (.v 3 (.v 4 (.v 5 (.v 6 (.v 7 (.v 8 (.v 9 (.v 10 (.t 11 (.v 12 (.v 13 .nil)))))))))))))) moOrd (by kernel_rfl) ?_
   refine rvm rfl rfl (rvm rfl rfl (rvm rfl rfl (rvm rfl rfl (zz h fun q353 h => zo rfl (zaF rfl rfl q353) (zb h fun y354 hy354 h => zo rfl (zeS (α := Int) sl23 rfl rfl hy354) (zo rfl (zeR ty3 rfl zcB) ?_))))))
   refine rvm rfl rfl (rvm rfl rfl (zb h fun y355 hy355 h => zo rfl (zeS (α := Int) sl23 rfl rfl hy355) (zo rfl (zeR ty3 rfl zcB) (zb h fun y356 hy356 h => zR rfl rfl (zea rfl (s2 rfl rfl) (zdq hy356) hT .nil (fun R H' hR => ?_))))))
   obtain ⟨rfl, rfl⟩ := hR
   refine zo rfl (zaj rfl rfl) (zo rfl (zbq rfl) (zab (zde 0 hn352 rfl (zx (zg h rfl (fun _ h => ?_) (fun _ h => ?_))))))
   ·exact zh (oM rfl (zz h fun q357 h => oV (zaa rfl rfl q357) (oA rfl (zw (zi (hL290 _ () h _ (ze 32 rfl rfl (za (j := 20) rfl hI (za (j := 21) rfl hI (za (j := 0) rfl (vecvE (by first | rfl | simp)) zd))) k1)))))))
   exact zh (oM rfl (oA rfl (zw (zi (hL290 _ () h _ (ze 31 rfl rfl (za (j := 20) rfl hI (za (j := 21) rfl hI (za (j := 0) rfl (vecvE (by first | rfl | simp)) zd))) k1))))))
  refine zad (zU (eL290 _ _ (zE (zx (wsr (oM rfl (oM rfl (zz h fun q358 h => ?_))))))))
  refine oV (zaF rfl rfl q358) (oA rfl (rnf (zj (wsr (oM rfl (oM rfl (oV (zaj rfl rfl) (oM rfl ?_))))))))
  refine zau (jb 185) je .nil h 4 rfl (fun q359 g359 h => ?_) (fun J360 h hJ360 => ?_)
  ·refine rnf (zdB (ι := (List Int)) (γ := Unit) (fun q362 g362 => [(0, vecv zD (q362.length))]) (fun q362 g362 => [vecE zD (q362 : List Int)]) k1 h (fun q362 g362 h => ?_) (fun J363 h hJ363 => ?_))
   ·refine zj (wsr (oM rfl (oM rfl (oV (zaj rfl rfl) (oM rfl (zau (jb 199) je .nil h 4 rfl (fun q366 g366 h => ?_) (fun J367 h hJ367 => ?_)))))))
    ·refine rnf (zdB (ι := (List Int)) (γ := Unit) (fun q369 g369 => [(0, vecv zD (q369.length))]) (fun q369 g369 => [vecE zD (q369 : List Int)]) k1 h (fun q369 g369 h => ?_) (fun J370 h hJ370 => ?_))
     ·refine wsr (oM rfl (oM rfl (oV (zaj rfl rfl) (oM rfl (zau (jb 213) je .nil h 4 rfl (fun q373 g373 h => ?_) (fun J374 h hJ374 => ?_))))))
      ·refine rnf (zg h rfl (fun _ h => ?_) (fun _ h => ?_))
       ·refine zh (oM rfl (oM rfl (oM rfl (oM rfl (oM rfl (zb h fun y376 hy376 h => oT (zy (zcN hy376) hT (.cons rfl (fun _ _ h => vecvE (by first | rfl | simp) _ _ h) (s4 rfl rfl rfl rfl)) k1 ?_)))))))
        refine zI h fun q377 h => zG (zO 0 rfl (vecvE q377.symm)) (zG (zO 214 rfl (vecvE q377.symm)) (zw (zan .nil k1 ?_)))
        cases h
        exact ⟨rfl, rfl⟩
       refine zac (zan .nil k1 ?_)
       cases h
       exact ⟨rfl, rfl⟩
      refine zB (j := 209) h rfl (fun g375 h => ?_) (fun g375 h => ?_)
      ·exact oK 209 rfl rfl rfl g375 (zt rfl) (oK 209 rfl rfl rfl g375 (zt rfl) (oK 209 rfl rfl rfl g375 (zaj rfl rfl) (oV (zs rfl g375 rfl) (hJ374 _ () h _ (jk 4 213 rfl rfl rfl)))))
      exact oP 209 rfl rfl g375 (oP 209 rfl rfl g375 (oP 209 rfl rfl g375 (oV (zr rfl g375 rfl) (hJ374 _ () h _ (jk 4 213 rfl rfl rfl)))))
     refine zg h rfl (fun _ h => ?_) (fun _ h => ?_)
     ·refine zh (oM rfl (oM rfl (oM rfl (oM rfl (oM rfl (zb h fun y371 hy371 h => oT (zy (zcN hy371) hT (.cons rfl (fun _ _ h => vecvE (by first | rfl | simp) _ _ h) (s4 rfl rfl rfl rfl)) k1 ?_)))))))
      exact zI h fun q372 h => zG (zO 0 rfl (vecvE q372.symm)) (zG (zO 200 rfl (vecvE q372.symm)) (zw (hJ370 _ () h _ (ze 8 rfl rfl (za (j := 0) rfl (vecvE (by first | rfl | simp)) zd) k1))))
     exact zac (hJ370 _ () h _ (ze 0 rfl rfl (za (j := 0) rfl (vecvE (by first | rfl | simp)) zd) k1))
    refine zB (j := 195) h rfl (fun g368 h => ?_) (fun g368 h => ?_)
    ·exact oK 195 rfl rfl rfl g368 (zt rfl) (oK 195 rfl rfl rfl g368 (zt rfl) (oK 195 rfl rfl rfl g368 (zaj rfl rfl) (oV (zs rfl g368 rfl) (hJ367 _ () h _ (jk 4 199 rfl rfl rfl)))))
    exact oP 195 rfl rfl g368 (oP 195 rfl rfl g368 (oP 195 rfl rfl g368 (oV (zr rfl g368 rfl) (hJ367 _ () h _ (jk 4 199 rfl rfl rfl)))))
   refine zg h rfl (fun _ h => ?_) (fun _ h => ?_)
   ·refine zh (oM rfl (oM rfl (oM rfl (oM rfl (oM rfl (zb h fun y364 hy364 h => oT (zy (zeL hy364) hT (.cons rfl (fun _ _ h => vecvE (by first | rfl | simp) _ _ h) (s4 rfl rfl rfl rfl)) k1 ?_)))))))
    exact zI h fun q365 h => zG (zO 0 rfl (vecvE q365.symm)) (zG (zO 186 rfl (vecvE q365.symm)) (zw (hJ363 _ () h _ (ze 8 rfl rfl (za (j := 0) rfl (vecvE (by first | rfl | simp)) zd) k1))))
   exact zac (hJ363 _ () h _ (ze 0 rfl rfl (za (j := 0) rfl (vecvE (by first | rfl | simp)) zd) k1))
  refine zB (j := 181) h rfl (fun g361 h => ?_) (fun g361 h => ?_)
  ·exact oK 181 rfl rfl rfl g361 (zt rfl) (oK 181 rfl rfl rfl g361 (zt rfl) (oK 181 rfl rfl rfl g361 (zaj rfl rfl) (oV (zs rfl g361 rfl) (hJ360 _ () h _ (jk 4 185 rfl rfl rfl)))))
  exact oP 181 rfl rfl g361 (oP 181 rfl rfl g361 (oP 181 rfl rfl g361 (oV (zr rfl g361 rfl) (hJ360 _ () h _ (jk 4 185 rfl rfl rfl)))))
 refine zg h rfl (fun _ h => ?_) (fun _ h => ?_)
 ·refine wsr (oM rfl (oM rfl (zz h fun q287 h => oV (zaF rfl rfl q287) (oA rfl (rnf (zh (oM rfl ?_)))))))
  exact oA rfl (zw (hJ286 _ () h _ (ze 6 rfl rfl (za (j := 20) rfl hI (za (j := 21) rfl hI zd)) k1)))
 exact wsr (oM rfl (oA rfl (rnf (zh (oM rfl (oA rfl (zw (hJ286 _ () h _ (ze 4 rfl rfl (za (j := 20) rfl hI (za (j := 21) rfl hI zd)) k1)))))))))

theorem zce : ∀ n, zbJ (zaL n)
 | 0 => fun h => (by cases h)
 | n + 1 => zei (zce n)
theorem zcK (n : Nat) : zbJ (zaL n) := (zce n)

theorem zeN : ∀ {zae : (List Int)} {a_n_ : Int} {zT : GTyp} {zD : Vt} {r : (List Int)}, zby zae a_n_ zT = some r → Ctr Tryz.prog 118 [vecv zD (zae.length), isv (a_n_), clov 52 [immv (zT)]] [vecE zD (zae : List Int)] (fun R H => R = oneOf [] ∧ H = [vecE zD (r)]) := by
 intro zae a_n_ zT zD r h
 unfold zby at h
 refine zp Tryz.func118 rfl fun w0 S0 hT => wsr (oA rfl (rnf (wsr (oM rfl (oA rfl (oA rfl (rnf ?_)))))))
 refine zj (zq (zaN (ι := (List Int) × Int × Int) (γ := Unit) (fun q1 g1 => [(7, isv (q1.2.1)), (8, isv (q1.2.2)), (0, vecv zD (q1.1.length))]) (fun q1 g1 => [vecE zD (q1.1 : List Int)]) h () (za (j := 7) rfl hI (za (j := 8) rfl hI (za (j := 0) rfl (vecvE (by first | rfl | simp)) zd))) k1 (fun L2 q1 g1 Q183 h hL2 eL2 rL2 => ?_)))
 refine zj (wsr (oM rfl (oM rfl (oV (ziQ rfl rfl) (rnf (zg h rfl (fun _ h => ?_) (fun _ h => ?_)))))))
 ·refine wkf (zq (wsr (oM rfl (oM rfl (oM rfl (oM rfl (zb h fun y123 hy123 h => oT (zy (zb6 hy123) hT (.cons rfl (fun _ _ h => vecvE (by first | rfl | simp) _ _ h) (s3 rfl rfl rfl)) k1 ?_))))))))
  refine zI h fun q124 h => zG (zO 0 rfl (vecvE q124.symm)) (zG (zO 14 rfl (vecvE q124.symm)) (rnf (wsr (oM rfl (oA rfl (rnf (zh ?_)))))))
  exact oM rfl (oM rfl (zz h fun q125 h => oV (zaa rfl rfl q125) (oA rfl (zw (zi (hL2 _ () h _ (ze 19 rfl rfl (za (j := 7) rfl hI (za (j := 8) rfl hI (za (j := 0) rfl (vecvE (by first | rfl | simp)) zd))) k1)))))))
 refine zad (zU (eL2 _ _ (zE (zx (wsr (oM rfl (oM rfl (oM rfl ?_))))))))
 refine oM rfl (zb h fun y126 hy126 h => oT (zy (zb6 hy126) hT (.cons rfl (fun _ _ h => vecvE (by first | rfl | simp) _ _ h) (s3 rfl rfl rfl)) k1 ?_))
 refine zI h fun q127 h => zG (zO 0 rfl (vecvE q127.symm)) (zG (zO 23 rfl (vecvE q127.symm)) (rnf (zq (zaN (ι := (List Int) × Int) (γ := Unit) (fun q128 g128 => [(6, isv (q128.2)), (7, anyv), (8, anyv), (23, anyv), (0, vecv zD (q128.1.length))]) (fun q128 g128 => [vecE zD (q128.1 : List Int)]) h () (za (j := 6) rfl hI (za (j := 7) rfl (fun _ _ _ => trivial) (za (j := 8) rfl (fun _ _ _ => trivial) (za (j := 23) rfl (fun _ _ _ => trivial) (za (j := 0) rfl (vecvE (by first | rfl | simp)) zd))))) k1 (fun L129 q128 g128 Q182 h hL129 eL129 rL129 => ?_)))))
 refine zj (wsr (oM rfl (oM rfl (oV (zaj rfl rfl) (rnf (zg h rfl (fun _ h => ?_) (fun _ h => ?_)))))))
 ·refine wkf (zq (wsr (oM rfl (zz h fun q156 h => oV (zjL rfl rfl q156) (oA rfl (oA rfl (rnf ?_)))))))
  refine zj (zq (zaN (ι := (List Int) × Int × Int) (γ := Unit) (fun q157 g157 => [(7, isv (q157.2.1)), (8, isv (q157.2.2)), (0, vecv zD (q157.1.length))]) (fun q157 g157 => [vecE zD (q157.1 : List Int)]) h () (za (j := 7) rfl hI (za (j := 8) rfl hI (za (j := 0) rfl (vecvE (by first | rfl | simp)) zd))) k1 (fun L158 q157 g157 Q181 h hL158 eL158 rL158 => ?_)))
  refine zj (wsr (oM rfl (oM rfl (oV (ziQ rfl rfl) (rnf (zg h rfl (fun _ h => ?_) (fun _ h => ?_)))))))
  ·refine wkf (zq (wsr (oM rfl (oM rfl (oM rfl (oM rfl (zz h fun q170 h => oV (zaa rfl rfl q170) ?_)))))))
   refine oM rfl (oM rfl (zb h fun y171 hy171 h => oT (zy (zcK fuel hy171) hT (.cons rfl (fun _ _ h => vecvE (by first | rfl | simp) _ _ h) (s4 rfl rfl rfl rfl)) k1 ?_)))
   refine zI h fun q172 h => zG (zO 0 rfl (vecvE q172.symm)) (zG (zO 36 rfl (vecvE q172.symm)) (rnf (wsr (oM rfl (oA rfl (rnf (zh ?_)))))))
   refine oM rfl (oM rfl (zz h fun q173 h => oV (zjL rfl rfl q173) (zz h fun q174 h => oV (zaa rfl rfl q174) (oA rfl (zw (zi ?_))))))
   exact hL158 _ () h _ (ze 23 rfl rfl (za (j := 7) rfl hI (za (j := 8) rfl hI (za (j := 0) rfl (vecvE (by first | rfl | simp)) zd))) k1)
  refine zad (zU (eL158 _ _ (zE (zx (zj (wsr (oM rfl (oM rfl ?_))))))))
  refine zz h fun q175 h => oV (zaa rfl rfl q175) (oA rfl (rnf (wsr (oM rfl (oM rfl (oV (zaj rfl rfl) (rnf ?_)))))))
  refine zdB (ι := (List Int)) (γ := Unit) (fun q176 g176 => [(0, vecv zD (q176.length))]) (fun q176 g176 => [vecE zD (q176 : List Int)]) k1 h (fun q176 g176 h => ?_) (fun J177 h hJ177 => ?_)
  ·exact zh (oM rfl (zz h fun q180 h => oV (zjL rfl rfl q180) (oA rfl (zw (zi (hL129 _ () h _ (ze 29 rfl rfl (za (j := 6) rfl hI (za (j := 7) rfl (fun _ _ _ => trivial) (za (j := 8) rfl (fun _ _ _ => trivial) (za (j := 23) rfl (fun _ _ _ => trivial) (za (j := 0) rfl (vecvE (by first | rfl | simp)) zd))))) k1)))))))
  refine zg h rfl (fun _ h => ?_) (fun _ h => ?_)
  ·refine zh (oM rfl (oM rfl (oM rfl (oM rfl (oM rfl (zb h fun y178 hy178 h => oT (zy (zcK fuel hy178) hT (.cons rfl (fun _ _ h => vecvE (by first | rfl | simp) _ _ h) (s4 rfl rfl rfl rfl)) k1 ?_)))))))
   exact zI h fun q179 h => zG (zO 0 rfl (vecvE q179.symm)) (zG (zO 55 rfl (vecvE q179.symm)) (zw (hJ177 _ () h _ (ze 8 rfl rfl (za (j := 0) rfl (vecvE (by first | rfl | simp)) zd) k1))))
  exact zac (hJ177 _ () h _ (ze 0 rfl rfl (za (j := 0) rfl (vecvE (by first | rfl | simp)) zd) k1))
 refine zad (zU (eL129 _ _ (zE (zan .nil k1 ?_))))
 cases h
 exact ⟨rfl, rfl⟩


theorem zdM : ∀ {a_x : (List Int)} {zT : GTyp} {zhZ : Vt} {r : (List Int)}, za7 a_x zT = some r → Ctr Tryz.prog 80 [vecv zhZ (a_x.length), clov 52 [immv (zT)]] [vecE zhZ (a_x : List Int)] (fun R H => R = oneOf [] ∧ H = [vecE zhZ (r)]) := by
 intro a_x zT zhZ r h
 unfold za7 at h
 refine zp Tryz.func80 rfl fun w0 S0 hT => zh (oM rfl (oM rfl (oV (zfM sl23 rfl) (oM rfl (zb h fun y1 hy1 h => oT (zy (zeN hy1) hT (.cons rfl (fun _ _ h => vecvE (by first | rfl | simp) _ _ h) (s2 rfl rfl)) k1 ?_))))))
 refine zI h fun q2 h => zG (zO 0 rfl (vecvE q2.symm)) (zG (zO 4 rfl (vecvE q2.symm)) (zG (zO 5 rfl (vecvE q2.symm)) (zw (zan .nil k1 ?_))))
 cases h
 exact ⟨rfl, rfl⟩


theorem zio : ∀ {zcH : GTyp} {a_l : (List Int)} {zcd : (List Int)} {zc1 : Vt} {r : (List Int)}, zdf zcH a_l zcd = some r → Ctr Tryz.prog 49 [clov 52 [immv (zcH)], vecv zc1 (a_l.length), isv (zcd)] [vecE zc1 (a_l : List Int)] (fun R H => R = oneOf [isv (r)] ∧ H = []) := by
 intro zcH a_l zcd zc1 r h
 unfold zdf at h
 refine zp Tryz.func49 rfl fun w0 S0 hT => wsr (oA rfl (zG (zdo (α := Int)) (zG (zO 6 rfl nilvV) (rnf (wsr (oM rfl (oM rfl ?_)))))))
 refine zb h fun y2 hy2 h => oT (zy (zdM hy2) hT (.cons rfl (fun _ _ h => vecvE (by first | rfl | simp) _ _ h) (s1 rfl)) (.cons tH .nil) ?_)
 refine zI h fun q3 h => zG (zO 1 rfl (vecvE q3.symm)) (zG (zO 7 rfl (vecvE q3.symm)) (rnf (wsr (oM rfl (oM rfl (zal h fun q5 h => oT (zfv (m := zcd) zbk rfl rfl hI .here (by first | rfl | simp) q5 fun v4 => ?_)))))))
 refine oA rfl (rnf (zJ (zdx (zdj 6 .here rfl (by first | rfl | simp)) ?_)))
 cases h
 exact zk (.tmp rfl .nil) .nil ⟨rfl, rfl⟩


theorem zjo : ∀ {a_t : GTab} {a_i : Int} {r : (List Int)}, zeC a_t a_i = some r → Ctr Tryz.prog 18 [isv (a_t), isv (a_i)] [] (fun R H => R = oneOf [isv (r)] ∧ H = []) := by
 intro a_t a_i r h
 unfold zeC at h
 refine zp Tryz.func18 rfl fun w0 S0 hT => wsr (oT (zaV (y := a_t) rfl hI (oA rfl (rnf (wsr (oV (zf ty26 rfl) (oM rfl (zb h fun y1 hy1 h => ?_))))))))
 refine oT (zy (zfO hy1) hT (s2 rfl rfl) .nil (oT (zaf _ ze87 fun b2 => oT (zm (y' := (y1 : GTyp)) ty87 rfl rfl hI .here rfl (zG (zaq 5 .here rfl) (rnf (zj (wsr (oV (zW rfl GTyp.f0 zcx rfl (z := y1.kind)) (oV (zf ty3 rfl) ?_))))))))))
 refine oV (zbo rfl rfl) (rnf (zg h rfl (fun _ h => ?_) (fun _ h => ?_)))
 ·refine wsr (oA rfl (rnf (zJ (zA ?_))))
  cases h
  exact zk (.as rfl (zcv (α := Int)) .nil) .nil ⟨rfl, rfl⟩
 refine wkf (wsr (oV (zW rfl GTyp.f5 zfr rfl (z := y1.root)) (oV (zf ty3 rfl) (oV (znI rfl rfl) (oV (zW rfl GTyp.f3 zft rfl (z := y1.items)) (oV (zf ty84 rfl) (oV (zaR (l := y1.items) rfl hI sl84) (oV (znk rfl rfl) ?_))))))))
 refine oA rfl (rnf (zj (zS (.v 0 (.v 1 (.v 3 (.v 4 (.v 5 (.v 6 (.t 2 (.t 7 (.t 8 (.v 9 .nil)))))))))) moOrd (by kernel_rfl) ?_)))
 refine zo rfl (zhu (s1 rfl)) (rvm rfl rfl (rvm rfl rfl (zo rfl (zW rfl GTyp.f3 zft rfl (z := y1.items)) (zo rfl (zf ty84 rfl) (zo rfl (zaR (l := y1.items) rfl hI sl84) (zb h fun y3 hy3 h => zR rfl rfl (zN (zcE hy3) hT (s2 rfl rfl) .nil (fun R H' hR => ?_))))))))
 obtain ⟨v4, rfl, rfl⟩ := hR
 refine zb h fun y5 hy5 h => zR rfl rfl (zN (zcE hy5) hT (s2 rfl rfl) .nil (fun R H' hR => ?_))
 obtain ⟨v6, rfl, rfl⟩ := hR
 refine zbg (zdj 27 .here rfl (by first | rfl | simp)) ?_
 refine zb h fun y7 hy7 h => zR rfl rfl (zy (zio hy7) hT (.same rfl (.cons rfl (fun _ _ h => vecvE (by first | rfl | simp) _ _ h) (s1 rfl))) k1 ?_)
 refine zo rfl (zaP rfl) (zab (zx (zJ ?_)))
 cases h
 exact zk (.tmp rfl .nil) .nil ⟨rfl, rfl⟩


theorem zlo : ∀ {a_t : GTab} {a_i : Int} {r : (List Int)}, zf8 a_t a_i = some r → Ctr Tryz.prog 19 [isv (a_t), isv (a_i)] [] (fun R H => R = oneOf [isv (r)] ∧ H = []) := by
 intro a_t a_i r h
 unfold zf8 at h
 refine zp Tryz.func19 rfl fun w0 S0 hT => wsr (oT (zaV (y := a_t) rfl hI (oA rfl (rnf (zj (wsr (oV (zf ty26 rfl) (oM rfl ?_))))))))
 refine zb h fun y1 hy1 h => oT (zy (zgN hy1) hT (s2 rfl rfl) .nil (oV (zbq rfl) (oM rfl (zau (jb 21) je .nil h 8 rfl (fun q2 g2 h => ?_) (fun J3 h hJ3 => ?_)))))
 ·refine rnf (zg h rfl (fun _ h => ?_) (fun _ h => ?_))
  ·refine wsr (oA rfl (rnf (zJ (zA ?_))))
   cases h
   exact zk (.as rfl (zcv (α := Int)) .nil) .nil ⟨rfl, rfl⟩
  refine wkf (wsr (oV (zW rfl GTab.f3 zeM rfl (z := a_t.types)) (oV (zf ty24 rfl) (oM rfl (zb h fun y6 hy6 h => oV (zaz (l := a_t.types) rfl hI rfl sl24 hy6) (oV (zf ty87 rfl) (oT (zaf _ ze87 fun b7 => ?_))))))))
  refine oT (zm (y' := (y6 : GTyp)) ty87 rfl rfl hI .here rfl (zG (zaq 5 .here rfl) (rnf (wsr (oA rfl (rnf (zj (wsr (oA rfl ?_)))))))))
  refine rnf (zq (zfH (zaI) (zaN (ι := (List Int) × Int) (γ := Tok) (fun q8 g8 => [(6, appv g8 (q8.1)), (7, isv (q8.2))]) (fun q8 g8 => [tokE g8]) h (none) (za (j := 6) rfl zbn (za (j := 7) rfl hI zd)) k1 (fun L9 q8 g8 Q117 h hL9 eL9 rL9 => zj (wsr (oM rfl (oV (zW rfl GTyp.f3 zft rfl (z := y6.items)) (oV (zf ty84 rfl) ?_))))))))
  refine oV (zaR (l := y6.items) rfl hI sl84) (oV (zaj rfl rfl) (rnf (zg h rfl (fun _ h => ?_) (fun _ h => ?_))))
  ·refine wkf (zj (zq (wsr (oM rfl (oV (zaR (l := q8.1) rfl zF sl23) (oA rfl (rnf (zj ?_))))))))
   refine zq (zaN (ι := Int) (γ := Unit) (fun q63 g63 => [(8, isv (q63))]) (fun q63 g63 => []) h () (za (j := 8) rfl hI zd) .nil (fun L64 q63 g63 Q115 h hL64 eL64 rL64 => zj (zj (zS (.v 0 (.v 1 (.v 2 (.v 3 (.v 4 (.v 5 (.v 6 (.v 7 (.v 8 (.v 9 (.v 10 (.v 11 (.v 12 (.v 13 (.v 14 (.v 15 (.v 16 (.v 17 (.v 18 (.v 19 (.v 20 (.v 21 (.v 22 (.v 23 (.v 24 (.v 25 (.v 26 .nil))))))))))))))))))))))))))) moOrd (by kernel_rfl) ?_))))
   refine rvm rfl rfl (zo rfl (zW rfl GTyp.f5 zfr rfl (z := y6.root)) (zo rfl (zf ty3 rfl) (zo rfl (zaj rfl rfl) (rvm rfl rfl (zc8 (jb 43) je .nil h 3 rfl (fun q90 g90 h => ?_) (fun J91 h hJ91 => ?_))))))
   ·refine rvm rfl rfl (zc8 (jb 62) je .nil h 18 rfl (fun q93 g93 h => ?_) (fun J94 h hJ94 => ?_))
    ·refine zab (zx (zg h rfl (fun _ h => ?_) (fun _ h => ?_)))
     ·refine wkf (zq (zh (oM rfl (zz h fun q100 h => oV (zaF rfl rfl q100) (oA rfl (zw (zi ?_)))))))
      exact hL64 _ () h _ (jk 12 8 rfl rfl rfl)
     refine zad (zU (eL64 _ _ (zE (zx (zS (.v 0 (.v 1 (.v 2 (.v 4 (.v 7 (.v 8 (.v 9 (.alt 3 (.t 5 (.t 6 (.t 10 (.v 11 .nil)))) (.t 5 (.t 3 (.t 6 (.t 10 (.v 11 .nil))))))))))))) moOrd (by kernel_rfl) ?_)))))
     refine rvm rfl rfl (rvm rfl rfl (zI h fun q101 h => zo rfl (zfl (l := q8.1) rfl zF sl23 (.inl ⟨rfl, rfl⟩) (.inr ⟨_, rfl, rfl⟩) q101.1 q101.2.1 q101.2.2) (rvm rfl rfl (rvm rfl rfl (rvm rfl rfl (zI h fun q102 h => zo rfl (zfl (l := q8.1) rfl zF sl23 (.inr ⟨_, rfl, rfl⟩) (.inl ⟨rfl, rfl⟩) q102.1 q102.2.1 q102.2.2) ?_))))))
     refine zal h fun q104 h => zal h fun q107 h => zal h fun q109 h => zz h fun q110 h => zbv ?_ ?_
     ·refine zR rfl rfl (zgQ (m := ((q8.1.take (q63).toNat).drop (0 : Int).toNat)) zbk rfl rfl hI q104 fun t103 => zR rfl rfl (zY (l := ([q8.2] : (List Int))) el23 (.cons rfl hI .nil) rfl rfl (zR rfl rfl (zaZ (l := (([] : (List Int)) ++ ((q8.1.take (q63).toNat).drop (0 : Int).toNat))) (m := ([q8.2] : (List Int))) zbk rfl hI rfl zF .here q107 fun t106 => zR rfl rfl (zaZ (l := ((([] : (List Int)) ++ ((q8.1.take (q63).toNat).drop (0 : Int).toNat)) ++ ([q8.2] : (List Int)))) (m := ((q8.1.take ((q8.1.length : Int)).toNat).drop (q63).toNat)) zbk rfl hI rfl hI .here q109 fun t108 => zo rfl (zaP rfl) (zab (zi (zx (zh ?_)))))))))
      exact oM rfl (oV (zaa rfl rfl q110) (oA rfl (zw (hL9 _ (t108) h _ (ze 34 rfl rfl (za (j := 6) rfl hI (za (j := 7) rfl hI zd)) k1)))))
     refine zR rfl rfl (zY (l := ([q8.2] : (List Int))) el23 (.cons rfl hI .nil) rfl rfl (zR rfl rfl (zgQ (m := ((q8.1.take (q63).toNat).drop (0 : Int).toNat)) zbk rfl rfl hI q104 fun t112 => zR rfl rfl (zaZ (l := (([] : (List Int)) ++ ((q8.1.take (q63).toNat).drop (0 : Int).toNat))) (m := ([q8.2] : (List Int))) zbk rfl hI rfl zF .here q107 fun t113 => zR rfl rfl (zaZ (l := ((([] : (List Int)) ++ ((q8.1.take (q63).toNat).drop (0 : Int).toNat)) ++ ([q8.2] : (List Int)))) (m := ((q8.1.take ((q8.1.length : Int)).toNat).drop (q63).toNat)) zbk rfl hI rfl hI .here q109 fun t114 => zo rfl (zaP rfl) (zab (zi (zx (zh ?_)))))))))
     exact oM rfl (oV (zaa rfl rfl q110) (oA rfl (zw (hL9 _ (t114) h _ (ze 34 rfl rfl (za (j := 6) rfl hI (za (j := 7) rfl hI zd)) k1)))))
    refine zaA (j := 44) h rfl (fun g95 h => ?_) (fun g95 h => ?_)
    ·refine rvt 44 rfl rfl rfl g95 (zW rfl GTyp.f3 zft rfl (z := y6.items)) (rvt 44 rfl rfl rfl g95 (zf ty84 rfl) (rvt 44 rfl rfl rfl g95 (zt rfl) (zb h fun y96 hy96 h => rvt 44 rfl rfl rfl g95 (zaz (l := y6.items) rfl hI rfl sl84 hy96) (rvt 44 rfl rfl rfl g95 (zW rfl GItem.f1 zc6 rfl (z := y96.number)) (rvt 44 rfl rfl rfl g95 (zf ty2 rfl) (rvt 44 rfl rfl rfl g95 (zW rfl GTyp.f3 zft rfl (z := y6.items)) (rvt 44 rfl rfl rfl g95 (zf ty84 rfl) ?_)))))))
     refine rvt 44 rfl rfl rfl g95 (zt rfl) (rvt 44 rfl rfl rfl g95 (zt rfl) (zz h fun q97 h => rvt 44 rfl rfl rfl g95 (zaF rfl rfl q97) (zb h fun y98 hy98 h => rvt 44 rfl rfl rfl g95 (zaz (l := q8.1) rfl zF rfl sl23 hy98) (rvt 44 rfl rfl rfl g95 (zf ty3 rfl) (zb h fun y99 hy99 h => rvt 44 rfl rfl rfl g95 (zaz (l := y6.items) rfl hI rfl sl84 hy99) ?_)))))
     exact rvt 44 rfl rfl rfl g95 (zW rfl GItem.f1 zc6 rfl (z := y99.number)) (rvt 44 rfl rfl rfl g95 (zf ty2 rfl) (rvt 44 rfl rfl rfl g95 (zaj rfl rfl) (zo rfl (zs rfl g95 rfl) (hJ94 _ () h _ (jk 18 62 rfl rfl rfl)))))
    refine rpv 44 rfl rfl rfl g95 (rpv 44 rfl rfl rfl g95 (rpv 44 rfl rfl rfl g95 (rpv 44 rfl rfl rfl g95 (rpv 44 rfl rfl rfl g95 (rpv 44 rfl rfl rfl g95 (rpv 44 rfl rfl rfl g95 (rpv 44 rfl rfl rfl g95 (rpv 44 rfl rfl rfl g95 ?_))))))))
    refine rpv 44 rfl rfl rfl g95 (rpv 44 rfl rfl rfl g95 (rpv 44 rfl rfl rfl g95 (rpv 44 rfl rfl rfl g95 (rpv 44 rfl rfl rfl g95 (rpv 44 rfl rfl rfl g95 (rpv 44 rfl rfl rfl g95 (rpv 44 rfl rfl rfl g95 (zo rfl (zr rfl g95 rfl) ?_))))))))
    exact hJ94 _ () h _ (jk 18 62 rfl rfl rfl)
   refine zaA (j := 40) h rfl (fun g92 h => ?_) (fun g92 h => ?_)
   ·exact rvt 40 rfl rfl rfl g92 (zt rfl) (rvt 40 rfl rfl rfl g92 (zbu rfl rfl) (zo rfl (zs rfl g92 rfl) (hJ91 _ () h _ (jk 3 43 rfl rfl rfl))))
   exact rpv 40 rfl rfl rfl g92 (rpv 40 rfl rfl rfl g92 (zo rfl (zr rfl g92 rfl) (hJ91 _ () h _ (jk 3 43 rfl rfl rfl))))
  refine zad (zU (eL9 _ _ (zE (zx (wsr (oM rfl (oA rfl (rnf ?_))))))))
  refine zJ ?_
  cases h
  exact zk (.as rfl zF .nil) .nil ⟨rfl, rfl⟩
 refine zB (j := 13) h rfl (fun g4 h => ?_) (fun g4 h => ?_)
 ·exact oP 13 rfl rfl g4 (oP 13 rfl rfl g4 (oP 13 rfl rfl g4 (oP 13 rfl rfl g4 (oP 13 rfl rfl g4 (oP 13 rfl rfl g4 (oP 13 rfl rfl g4 (oV (zs rfl g4 rfl) (hJ3 _ () h _ (ji 8 21 rfl rfl rfl)))))))))
 refine oK 13 rfl rfl rfl g4 (zW rfl GTab.f3 zeM rfl (z := a_t.types)) (oK 13 rfl rfl rfl g4 (zf ty24 rfl) (oK 13 rfl rfl rfl g4 (zt rfl) (zb h fun y5 hy5 h => oK 13 rfl rfl rfl g4 (zaz (l := a_t.types) rfl hI rfl sl24 hy5) (oK 13 rfl rfl rfl g4 (zW rfl GTyp.f0 zcx rfl (z := y5.kind)) (oK 13 rfl rfl rfl g4 (zf ty3 rfl) (oK 13 rfl rfl rfl g4 (zbo rfl rfl) (oV (zr rfl g4 rfl) ?_)))))))
 exact hJ3 _ () h _ (ji 8 21 rfl rfl rfl)


theorem zjv : ∀ {a_t : GTab} {a_i : Int} {r : (List (List Int))}, zeD a_t a_i = some r → Ctr Tryz.prog 21 [isv (a_t), isv (a_i)] [] (fun R H => R = oneOf [isv (r)] ∧ H = []) := by
 intro a_t a_i r h
 unfold zeD at h
 refine zp Tryz.func21 rfl fun w0 S0 hT => wsr (oT (zaV (y := a_t) rfl hI (oA rfl (zG (zaI) (zG (zdo (α := NL Int)) (zG (zO 4 rfl nilvV) (rnf (wsr ?_))))))))
 refine oV (zf ty26 rfl) (oM rfl (zb h fun y3 hy3 h => oT (zy (zfO hy3) hT (s2 rfl rfl) .nil (oT (zaf _ ze87 fun b4 => oT (zm (y' := (y3 : GTyp)) ty87 rfl rfl hI .here rfl (zG (zaq 5 .here rfl) (rnf (zj ?_)))))))))
 refine wsr (oV (zW rfl GTyp.f0 zcx rfl (z := y3.kind)) (oV (zf ty3 rfl) (oV (zbo rfl rfl) (oM rfl (zau (jb 21) je .nil h 4 rfl (fun q5 g5 h => ?_) (fun J6 h hJ6 => ?_))))))
 ·refine oM rfl (zau (jb 26) je .nil h 4 rfl (fun q8 g8 h => ?_) (fun J9 h hJ9 => ?_))
  ·refine rnf (zg h rfl (fun _ h => ?_) (fun _ h => ?_))
   ·refine wsr (oA rfl (zG (zaI) (zG (zdo (α := NL Int)) (zG (zO 4 rfl nilvV) (rnf (zJ (zA (zdx (zdj 4 .here rfl (by first | rfl | simp)) ?_))))))))
    refine zdx (zO 4 rfl (zgP (t := none) (L := (([] : (List (List Int))) : List (List Int))))) ?_
    cases h
    exact zk (.tmp rfl .nil) .nil ⟨rfl, rfl⟩
   refine wkf (wsr (oA rfl (zG (zaI) (zG (zdo (α := NL Int)) (zG (zO 6 rfl nilvV) (rnf (zj (wsr ?_))))))))
   refine oV (zW rfl GTyp.f5 zfr rfl (z := y3.root)) (oV (zf ty3 rfl) (oV (znI rfl rfl) (oV (zW rfl GTyp.f4 zbA rfl (z := y3.fields)) (oV (zf ty85 rfl) (oV (zaR (l := y3.fields) rfl hI sl85) (zb h fun y15 hy15 h => oT (zN (zcE hy15) hT (s2 rfl rfl) .nil (fun R H' hR => ?_))))))))
   obtain ⟨v16, rfl, rfl⟩ := hR
   refine oV (zfM sl23 rfl) (oM rfl (rnf (zq (zaN (ι := (List (List Int)) × Int) (γ := Vt × Tok) (fun q17 g17 => [(6, vecv g17.1 (q17.1.length)), (35, isv (q17.2))]) (fun q17 g17 => [vecE g17.1 (nestL g17.2 (q17.1 : List (List Int))), tokE g17.2]) h (none, none) (za (j := 6) rfl (vecvE (by first | rfl | simp)) (za (j := 35) rfl hI zd)) (.cons tH (.cons tH .nil)) (fun L18 q17 g17 Q79 h hL18 eL18 rL18 => ?_)))))
   refine wsr (oV (zaj rfl rfl) (rnf (zj (zg h rfl (fun _ h => ?_) (fun _ h => ?_)))))
   ·refine wkf (zj (zdB (ι := (List (List Int))) (γ := Vt × Tok) (fun q49 g49 => [(6, vecv g49.1 (q49.length))]) (fun q49 g49 => [vecE g49.1 (nestL g49.2 (q49 : List (List Int))), tokE g49.2]) k2 h (fun q49 g49 h => ?_) (fun J50 h hJ50 => ?_)))
    ·exact zh (zz h fun q78 h => oV (zaa rfl rfl q78) (oM rfl (zw (hL18 _ (g49.1, g49.2) h _ (ze 6 rfl rfl (za (j := 6) rfl (vecvE (by first | rfl | simp)) (za (j := 35) rfl hI zd)) (.cons .here k4))))))
    refine zq (wsr (zI h fun q51 h => oV (zam (α := Int) sl23 rfl rfl q51.1 q51.2) (zb h fun y52 hy52 h => oT (zat ty3 rfl tI hy52 ?_))))
    refine oA rfl (rnf (wsr (oM rfl (oV (zfM sl36 rfl) (zz h fun q53 h => oV (zaF rfl rfl q53) (oA rfl (rnf ?_)))))))
    refine zj (wsr (oV (zW rfl GTyp.f4 zbA rfl (z := y3.fields)) (oV (zf ty85 rfl) (oM rfl (zb h fun y54 hy54 h => oV (zaz (l := y3.fields) rfl hI rfl sl85 hy54) (oV (zW rfl GFld.f5 ziO rfl (z := y54.group)) (oV (zf ty3 rfl) ?_)))))))
    refine oA rfl (rnf (wsr (oV (zW rfl GTyp.f0 zcx rfl (z := y3.kind)) (oV (zf ty3 rfl) (oV (zbo rfl rfl) (oM rfl (zau (jb 54) je .nil h 3 rfl (fun q55 g55 h => ?_) (fun J56 h hJ56 => ?_))))))))
    ·refine oM rfl (zau (jb 58) je .nil h 3 rfl (fun q58 g58 h => ?_) (fun J59 h hJ59 => ?_))
     ·refine oM rfl (zau (jb 69) je .nil h 10 rfl (fun q61 g61 h => ?_) (fun J62 h hJ62 => ?_))
      ·refine rnf (zg h rfl (fun _ h => ?_) (fun _ h => ?_))
       ·refine wsr (oM rfl (oM rfl (oM rfl (oM rfl (zI h fun q66 h => oV (zam (α := NL Int) sl36 rfl rfl q66.1 q66.2) (zI h fun q67 h => zb h fun y68 hy68 h => ?_))))))
        refine oT (zat ty23 rfl .here (zfn q67 hy68) ?_)
        refine zG (zO 75 rfl zn5) (oM rfl (oT (zY (l := ([y52] : (List Int))) el23 (.cons rfl hI .nil) rfl rfl (zal h fun q71 h => oT (zaZ (l := y68) (m := ([y52] : (List Int))) zbk rfl hI rfl zF tH q71 fun t70 => zI h fun q72 h => oV (zam (α := NL Int) sl36 rfl rfl q72.1 q72.2) (zI h fun q73 h => zb h fun y74 hy74 h => ?_))))))
        refine zG (zO 78 rfl zkl) (oT (zas ty23 rfl rfl tH (zfn q73 hy74) (zG (zkN .here (zik q73)) (zG (zO (R' := vecv g17.1 (q17.1.set ((((q17.1.length : Nat) : Int) - (1 : Int)).toNat) (y68 ++ ([y52] : (List Int)))).length) 6 rfl (vecvE (by simp))) ?_))))
        refine zG (zO (R' := vecv g17.1 (q17.1.set ((((q17.1.length : Nat) : Int) - (1 : Int)).toNat) (y68 ++ ([y52] : (List Int)))).length) 39 rfl (vecvE (by simp))) ?_
        refine zG (zO (R' := vecv g17.1 (q17.1.set ((((q17.1.length : Nat) : Int) - (1 : Int)).toNat) (y68 ++ ([y52] : (List Int)))).length) 70 rfl (vecvE (by simp))) ?_
        refine zG (zO (R' := vecv g17.1 (q17.1.set ((((q17.1.length : Nat) : Int) - (1 : Int)).toNat) (y68 ++ ([y52] : (List Int)))).length) 72 rfl (vecvE (by simp))) ?_
        exact rnf (zad (zU (zE (hJ50 _ (g17.1, t70) h _ (ze 39 rfl rfl (za (j := 6) rfl (vecvE (by first | rfl | simp)) zd) (.cons .here k4))))))
       refine wkf (zh (oM rfl (oM rfl (oT (zY (l := ([y52] : (List Int))) el23 (.cons rfl hI .nil) rfl rfl (zG (zaI) (oT (zY (l := [NL.mk (([y52] : (List Int))) (some none)]) el36 (.cons rfl zkl .nil) rfl rfl (zal h fun q77 h => oT (zfv (m := [NL.mk (([y52] : (List Int))) (some none)]) zka rfl rfl zF tH (by first | rfl | simp) (by rw [zdz]; exact q77) fun v76 => ?_))))))))))
       refine zG (zkB .here) (zG (zO (R' := vecv v76 (q17.1 ++ [([y52] : (List Int))]).length) 84 rfl (vecvE (by simp))) ?_)
       exact oA rfl (zw (zi (hJ50 _ (v76, none) h _ (ze 30 rfl rfl (za (j := 6) rfl (vecvE (by first | rfl | simp)) zd) (.cons .here (.cons .here (.cons tH (.cons tH (.cons tH .nil)))))))))
      refine zB (j := 59) h rfl (fun g63 h => ?_) (fun g63 h => ?_)
      ·refine oK 59 rfl rfl rfl g63 (zW rfl GTyp.f4 zbA rfl (z := y3.fields)) (oK 59 rfl rfl rfl g63 (zf ty85 rfl) (oK 59 rfl rfl rfl g63 (zt rfl) (zz h fun q64 h => oK 59 rfl rfl rfl g63 (zaF rfl rfl q64) (zb h fun y65 hy65 h => oK 59 rfl rfl rfl g63 (zaz (l := y3.fields) rfl hI rfl sl85 hy65) (oK 59 rfl rfl rfl g63 (zW rfl GFld.f5 ziO rfl (z := y65.group)) (oK 59 rfl rfl rfl g63 (zf ty3 rfl) ?_))))))
       exact oK 59 rfl rfl rfl g63 (zt rfl) (oK 59 rfl rfl rfl g63 (zao rfl rfl) (oV (zs rfl g63 rfl) (hJ62 _ () h _ (ze 10 rfl rfl (za (j := 69) rfl hI zd) (.cons .here k4)))))
      refine oP 59 rfl rfl g63 (oP 59 rfl rfl g63 (oP 59 rfl rfl g63 (oP 59 rfl rfl g63 (oP 59 rfl rfl g63 (oP 59 rfl rfl g63 (oP 59 rfl rfl g63 (oP 59 rfl rfl g63 (oP 59 rfl rfl g63 ?_))))))))
      exact oV (zr rfl g63 rfl) (hJ62 _ () h _ (ze 10 rfl rfl (za (j := 69) rfl hI zd) (.cons .here k4)))
     refine zB (j := 55) h rfl (fun g60 h => ?_) (fun g60 h => ?_)
     ·exact oK 55 rfl rfl rfl g60 (zt rfl) (oK 55 rfl rfl rfl g60 (zeV rfl rfl) (oV (zs rfl g60 rfl) (hJ59 _ () h _ (ze 3 rfl rfl (za (j := 58) rfl hI zd) (.cons .here k4)))))
     exact oP 55 rfl rfl g60 (oP 55 rfl rfl g60 (oV (zr rfl g60 rfl) (hJ59 _ () h _ (ze 3 rfl rfl (za (j := 58) rfl hI zd) (.cons .here k4)))))
    refine zB (j := 51) h rfl (fun g57 h => ?_) (fun g57 h => ?_)
    ·exact oK 51 rfl rfl rfl g57 (zt rfl) (oK 51 rfl rfl rfl g57 (zbu rfl rfl) (oV (zs rfl g57 rfl) (hJ56 _ () h _ (ze 3 rfl rfl (za (j := 54) rfl hI zd) (.cons .here k4)))))
    exact oP 51 rfl rfl g57 (oP 51 rfl rfl g57 (oV (zr rfl g57 rfl) (hJ56 _ () h _ (ze 3 rfl rfl (za (j := 54) rfl hI zd) (.cons .here k4)))))
   refine zad (zU (eL18 _ _ (zE (zx (wsr (oM rfl (oA rfl (rnf ?_))))))))
   refine zJ (zdx (zdj 4 .here rfl (by first | rfl | simp)) ?_)
   refine zdx (zO 4 rfl (zgP (t := g17.2) (L := (q17.1 : List (List Int))))) ?_
   cases h
   exact zk (.tmp rfl .nil) .nil ⟨rfl, rfl⟩
  refine zB (j := 22) h rfl (fun g10 h => ?_) (fun g10 h => ?_)
  ·exact oK 22 rfl rfl rfl g10 (zW rfl GTyp.f0 zcx rfl (z := y3.kind)) (oK 22 rfl rfl rfl g10 (zf ty3 rfl) (oK 22 rfl rfl rfl g10 (zbo rfl rfl) (oV (zs rfl g10 rfl) (hJ9 _ () h _ (ze 4 rfl rfl (za (j := 26) rfl hI zd) k2)))))
  exact oP 22 rfl rfl g10 (oP 22 rfl rfl g10 (oP 22 rfl rfl g10 (oV (zr rfl g10 rfl) (hJ9 _ () h _ (ze 4 rfl rfl (za (j := 26) rfl hI zd) k2)))))
 refine zB (j := 17) h rfl (fun g7 h => ?_) (fun g7 h => ?_)
 ·exact oK 17 rfl rfl rfl g7 (zW rfl GTyp.f0 zcx rfl (z := y3.kind)) (oK 17 rfl rfl rfl g7 (zf ty3 rfl) (oK 17 rfl rfl rfl g7 (zbo rfl rfl) (oV (zs rfl g7 rfl) (hJ6 _ () h _ (ze 4 rfl rfl (za (j := 21) rfl hI zd) k2)))))
 exact oP 17 rfl rfl g7 (oP 17 rfl rfl g7 (oP 17 rfl rfl g7 (oV (zr rfl g7 rfl) (hJ6 _ () h _ (ze 4 rfl rfl (za (j := 21) rfl hI zd) k2)))))


theorem zkR : ∀ {a_t : GTab} {a_i : Int} {r : (List (List Int))}, zfQ a_t a_i = some r → Ctr Tryz.prog 22 [isv (a_t), isv (a_i)] [] (fun R H => R = oneOf [isv (r)] ∧ H = []) := by
 intro a_t a_i r h
 unfold zfQ at h
 refine zp Tryz.func22 rfl fun w0 S0 hT => wsr (oT (zaV (y := a_t) rfl hI (oA rfl (zG (zaI) (zG (zdo (α := NL Int)) (zG (zO 4 rfl nilvV) (rnf (zj ?_))))))))
 refine wsr (oV (zf ty26 rfl) (oM rfl (zb h fun y3 hy3 h => oT (zy (zgN hy3) hT (s2 rfl rfl) .nil (oV (zbq rfl) (rnf (zg h rfl (fun _ h => ?_) (fun _ h => ?_))))))))
 ·refine wsr (oA rfl (zG (zaI) (zG (zdo (α := NL Int)) (zG (zO 4 rfl nilvV) (rnf (zJ (zA (zdx (zdj 4 .here rfl (by first | rfl | simp)) ?_))))))))
  refine zdx (zO 4 rfl (zgP (t := none) (L := (([] : (List (List Int))) : List (List Int))))) ?_
  cases h
  exact zk (.tmp rfl .nil) .nil ⟨rfl, rfl⟩
 refine wkf (wsr (oV (zW rfl GTab.f3 zeM rfl (z := a_t.types)) (oV (zf ty24 rfl) (oM rfl (zb h fun y6 hy6 h => oV (zaz (l := a_t.types) rfl hI rfl sl24 hy6) (oV (zf ty87 rfl) (oT (zaf _ ze87 fun b7 => ?_))))))))
 refine oT (zm (y' := (y6 : GTyp)) ty87 rfl rfl hI .here rfl (zG (zaq 5 .here rfl) (rnf (zj (wsr (oV (zW rfl GTyp.f0 zcx rfl (z := y6.kind)) (oV (zf ty3 rfl) (oV (zbo rfl rfl) (oM rfl ?_)))))))))
 refine zau (jb 25) je .nil h 4 rfl (fun q8 g8 h => ?_) (fun J9 h hJ9 => ?_)
 ·refine oM rfl (zau (jb 30) je .nil h 4 rfl (fun q11 g11 h => ?_) (fun J12 h hJ12 => ?_))
  ·refine rnf (zg h rfl (fun _ h => ?_) (fun _ h => ?_))
   ·refine wsr (oA rfl (zG (zaI) (zG (zdo (α := NL Int)) (zG (zO 4 rfl nilvV) (rnf (zJ (zA (zdx (zdj 4 .here rfl (by first | rfl | simp)) ?_))))))))
    refine zdx (zO 4 rfl (zgP (t := none) (L := (([] : (List (List Int))) : List (List Int))))) ?_
    cases h
    exact zk (.tmp rfl .nil) .nil ⟨rfl, rfl⟩
   refine wkf (wsr (oA rfl (zG (zaI) (zG (zdo (α := NL Int)) (zG (zO 6 rfl nilvV) (rnf (zj (wsr ?_))))))))
   refine oV (zW rfl GTyp.f5 zfr rfl (z := y6.root)) (oV (zf ty3 rfl) (oA rfl (rnf (zq (zaN (ι := (List (List Int)) × Int) (γ := Vt × Tok) (fun q18 g18 => [(6, vecv g18.1 (q18.1.length)), (7, isv (q18.2))]) (fun q18 g18 => [vecE g18.1 (nestL g18.2 (q18.1 : List (List Int))), tokE g18.2]) h (none, none) (za (j := 6) rfl (vecvE (by first | rfl | simp)) (za (j := 7) rfl hI zd)) k2 (fun L19 q18 g18 Q78 h hL19 eL19 rL19 => ?_))))))
   refine zj (wsr (oM rfl (oV (zW rfl GTyp.f4 zbA rfl (z := y6.fields)) (oV (zf ty85 rfl) (oV (zaR (l := y6.fields) rfl hI sl85) (oV (zaj rfl rfl) (rnf (zg h rfl (fun _ h => ?_) (fun _ h => ?_)))))))))
   ·refine wkf (zj (zdB (ι := (List (List Int))) (γ := Vt × Tok) (fun q49 g49 => [(6, vecv g49.1 (q49.length))]) (fun q49 g49 => [vecE g49.1 (nestL g49.2 (q49 : List (List Int))), tokE g49.2]) k2 h (fun q49 g49 h => ?_) (fun J50 h hJ50 => ?_)))
    ·exact zh (oM rfl (zz h fun q77 h => oV (zaa rfl rfl q77) (oA rfl (zw (hL19 _ (g49.1, g49.2) h _ (ze 11 rfl rfl (za (j := 6) rfl (vecvE (by first | rfl | simp)) (za (j := 7) rfl hI zd)) k4))))))
    refine zq (wsr (oV (zW rfl GTyp.f4 zbA rfl (z := y6.fields)) (oV (zf ty85 rfl) (oM rfl (zb h fun y51 hy51 h => oV (zaz (l := y6.fields) rfl hI rfl sl85 hy51) (oV (zW rfl GFld.f5 ziO rfl (z := y51.group)) (oV (zf ty3 rfl) ?_)))))))
    refine oA rfl (rnf (wsr (oV (zW rfl GTyp.f0 zcx rfl (z := y6.kind)) (oV (zf ty3 rfl) (oV (zbo rfl rfl) (oM rfl (zau (jb 52) je .nil h 3 rfl (fun q52 g52 h => ?_) (fun J53 h hJ53 => ?_))))))))
    ·refine oM rfl (zau (jb 58) je .nil h 5 rfl (fun q55 g55 h => ?_) (fun J56 h hJ56 => ?_))
     ·refine oM rfl (zau (jb 69) je .nil h 10 rfl (fun q58 g58 h => ?_) (fun J59 h hJ59 => ?_))
      ·refine rnf (zg h rfl (fun _ h => ?_) (fun _ h => ?_))
       ·refine zh (oM rfl (oM rfl (oV (zfM sl36 rfl) (zz h fun q63 h => oV (zaF rfl rfl q63) (oM rfl (oM rfl (oV (zfM sl36 rfl) ?_)))))))
        refine zz h fun q64 h => oV (zaF rfl rfl q64) (zI h fun q65 h => oV (zam (α := NL Int) sl36 rfl rfl q65.1 q65.2) (zI h fun q66 h => zb h fun y67 hy67 h => oT (zat ty23 rfl .here (zfn q66 hy67) ?_)))
        refine zG (zO 79 rfl zn5) (oM rfl (oT (zY (l := ([q18.2] : (List Int))) el23 (.cons rfl hI .nil) rfl rfl (zal h fun q70 h => oT (zaZ (l := y67) (m := ([q18.2] : (List Int))) zbk rfl hI rfl zF tH q70 fun t69 => zI h fun q71 h => oV (zam (α := NL Int) sl36 rfl rfl q71.1 q71.2) (zI h fun q72 h => zb h fun y73 hy73 h => ?_))))))
        refine zG (zO 82 rfl zkl) (oT (zas ty23 rfl rfl tH (zfn q72 hy73) (zG (zkN .here (zik q72)) (zG (zO (R' := vecv g18.1 (q18.1.set ((((q18.1.length : Nat) : Int) - (1 : Int)).toNat) (y67 ++ ([q18.2] : (List Int)))).length) 6 rfl (vecvE (by simp))) ?_))))
        refine zG (zO (R' := vecv g18.1 (q18.1.set ((((q18.1.length : Nat) : Int) - (1 : Int)).toNat) (y67 ++ ([q18.2] : (List Int)))).length) 70 rfl (vecvE (by simp))) ?_
        refine zG (zO (R' := vecv g18.1 (q18.1.set ((((q18.1.length : Nat) : Int) - (1 : Int)).toNat) (y67 ++ ([q18.2] : (List Int)))).length) 71 rfl (vecvE (by simp))) ?_
        refine zG (zO (R' := vecv g18.1 (q18.1.set ((((q18.1.length : Nat) : Int) - (1 : Int)).toNat) (y67 ++ ([q18.2] : (List Int)))).length) 74 rfl (vecvE (by simp))) ?_
        refine zG (zO (R' := vecv g18.1 (q18.1.set ((((q18.1.length : Nat) : Int) - (1 : Int)).toNat) (y67 ++ ([q18.2] : (List Int)))).length) 75 rfl (vecvE (by simp))) ?_
        exact zw (zi (hJ50 _ (g18.1, t69) h _ (ze 37 rfl rfl (za (j := 6) rfl (vecvE (by first | rfl | simp)) zd) k4)))
       refine zh (oM rfl (oM rfl (oT (zY (l := ([q18.2] : (List Int))) el23 (.cons rfl hI .nil) rfl rfl (zG (zaI) (oT (zY (l := [NL.mk (([q18.2] : (List Int))) (some none)]) el36 (.cons rfl zkl .nil) rfl rfl (zal h fun q76 h => oT (zfv (m := [NL.mk (([q18.2] : (List Int))) (some none)]) zka rfl rfl zF tH (by first | rfl | simp) (by rw [zdz]; exact q76) fun v75 => ?_)))))))))
       refine zG (zkB .here) (zG (zO (R' := vecv v75 (q18.1 ++ [([q18.2] : (List Int))]).length) 88 rfl (vecvE (by simp))) ?_)
       exact oA rfl (zw (zi (hJ50 _ (v75, none) h _ (ze 23 rfl rfl (za (j := 6) rfl (vecvE (by first | rfl | simp)) zd) (.cons .here (.cons .here (.cons tH (.cons tH .nil))))))))
      refine zB (j := 59) h rfl (fun g60 h => ?_) (fun g60 h => ?_)
      ·refine oK 59 rfl rfl rfl g60 (zW rfl GTyp.f4 zbA rfl (z := y6.fields)) (oK 59 rfl rfl rfl g60 (zf ty85 rfl) (oK 59 rfl rfl rfl g60 (zt rfl) (zz h fun q61 h => oK 59 rfl rfl rfl g60 (zaF rfl rfl q61) (zb h fun y62 hy62 h => oK 59 rfl rfl rfl g60 (zaz (l := y6.fields) rfl hI rfl sl85 hy62) (oK 59 rfl rfl rfl g60 (zW rfl GFld.f5 ziO rfl (z := y62.group)) (oK 59 rfl rfl rfl g60 (zf ty3 rfl) ?_))))))
       exact oK 59 rfl rfl rfl g60 (zt rfl) (oK 59 rfl rfl rfl g60 (zao rfl rfl) (oV (zs rfl g60 rfl) (hJ59 _ () h _ (ze 10 rfl rfl (za (j := 69) rfl hI zd) k4))))
      refine oP 59 rfl rfl g60 (oP 59 rfl rfl g60 (oP 59 rfl rfl g60 (oP 59 rfl rfl g60 (oP 59 rfl rfl g60 (oP 59 rfl rfl g60 (oP 59 rfl rfl g60 (oP 59 rfl rfl g60 (oP 59 rfl rfl g60 ?_))))))))
      exact oV (zr rfl g60 rfl) (hJ59 _ () h _ (ze 10 rfl rfl (za (j := 69) rfl hI zd) k4))
     refine zB (j := 53) h rfl (fun g57 h => ?_) (fun g57 h => ?_)
     ·exact oK 53 rfl rfl rfl g57 (zt rfl) (oK 53 rfl rfl rfl g57 (zW rfl GTyp.f5 zfr rfl (z := y6.root)) (oK 53 rfl rfl rfl g57 (zf ty3 rfl) (oK 53 rfl rfl rfl g57 (zbu rfl rfl) (oV (zs rfl g57 rfl) (hJ56 _ () h _ (ze 5 rfl rfl (za (j := 58) rfl hI zd) k4))))))
     exact oP 53 rfl rfl g57 (oP 53 rfl rfl g57 (oP 53 rfl rfl g57 (oP 53 rfl rfl g57 (oV (zr rfl g57 rfl) (hJ56 _ () h _ (ze 5 rfl rfl (za (j := 58) rfl hI zd) k4))))))
    refine zB (j := 49) h rfl (fun g54 h => ?_) (fun g54 h => ?_)
    ·exact oK 49 rfl rfl rfl g54 (zt rfl) (oK 49 rfl rfl rfl g54 (zbu rfl rfl) (oV (zs rfl g54 rfl) (hJ53 _ () h _ (ze 3 rfl rfl (za (j := 52) rfl hI zd) k4))))
    exact oP 49 rfl rfl g54 (oP 49 rfl rfl g54 (oV (zr rfl g54 rfl) (hJ53 _ () h _ (ze 3 rfl rfl (za (j := 52) rfl hI zd) k4))))
   refine zad (zU (eL19 _ _ (zE (zx (wsr (oM rfl (oA rfl (rnf ?_))))))))
   refine zJ (zdx (zdj 4 .here rfl (by first | rfl | simp)) ?_)
   refine zdx (zO 4 rfl (zgP (t := g18.2) (L := (q18.1 : List (List Int))))) ?_
   cases h
   exact zk (.tmp rfl .nil) .nil ⟨rfl, rfl⟩
  refine zB (j := 26) h rfl (fun g13 h => ?_) (fun g13 h => ?_)
  ·exact oK 26 rfl rfl rfl g13 (zW rfl GTyp.f0 zcx rfl (z := y6.kind)) (oK 26 rfl rfl rfl g13 (zf ty3 rfl) (oK 26 rfl rfl rfl g13 (zbo rfl rfl) (oV (zs rfl g13 rfl) (hJ12 _ () h _ (ze 4 rfl rfl (za (j := 30) rfl hI zd) k2)))))
  exact oP 26 rfl rfl g13 (oP 26 rfl rfl g13 (oP 26 rfl rfl g13 (oV (zr rfl g13 rfl) (hJ12 _ () h _ (ze 4 rfl rfl (za (j := 30) rfl hI zd) k2)))))
 refine zB (j := 21) h rfl (fun g10 h => ?_) (fun g10 h => ?_)
 ·exact oK 21 rfl rfl rfl g10 (zW rfl GTyp.f0 zcx rfl (z := y6.kind)) (oK 21 rfl rfl rfl g10 (zf ty3 rfl) (oK 21 rfl rfl rfl g10 (zbo rfl rfl) (oV (zs rfl g10 rfl) (hJ9 _ () h _ (ze 4 rfl rfl (za (j := 25) rfl hI zd) k2)))))
 exact oP 21 rfl rfl g10 (oP 21 rfl rfl g10 (oP 21 rfl rfl g10 (oV (zr rfl g10 rfl) (hJ9 _ () h _ (ze 4 rfl rfl (za (j := 25) rfl hI zd) k2)))))


theorem zjr : ∀ {a_a : (List (List Int))} {a_b : (List (List Int))} {r : Bool}, zfx a_a a_b = some r → Ctr Tryz.prog 54 [isv (a_a), isv (a_b), clov 15 []] [] (fun R H => R = oneOf [isv (r)] ∧ H = []) := by
 intro a_a a_b r h
 unfold zfx at h
 refine zp Tryz.func54 rfl fun w0 S0 hT => wsr (oA rfl (rnf (zj (wsr (oM rfl (oV (zaR (l := a_a) rfl hI sl36) (oM rfl ?_)))))))
 refine oV (zaR (l := a_b) rfl hI sl36) (oV (zbo rfl rfl) (rnf (zg h rfl (fun _ h => ?_) (fun _ h => ?_))))
 ·refine wsr (oA rfl (rnf (zJ (zA ?_))))
  cases h
  exact zk (.tmp rfl .nil) .nil ⟨rfl, rfl⟩
 refine wkf (zj (wsr (oA rfl (rnf (zq (zaN (ι := Int) (γ := Unit) (fun q1 g1 => [(7, isv (q1))]) (fun q1 g1 => []) h () (za (j := 7) rfl hI zd) .nil (fun L2 q1 g1 Q11 h hL2 eL2 rL2 => zj (wsr ?_))))))))
 refine oM rfl (oM rfl (oV (zaR (l := a_a) rfl hI sl36) (oV (zaj rfl rfl) (rnf (zg h rfl (fun _ h => ?_) (fun _ h => ?_))))))
 ·refine wkf (zj (zq (zj (zS (.v 0 (.v 1 (.v 2 (.v 3 (.v 4 (.v 5 (.v 6 (.v 7 (.v 8 (.t 9 (.v 10 .nil))))))))))) moOrd (by kernel_rfl) ?_))))
  refine rvm rfl rfl (rvm rfl rfl (rvm rfl rfl (zb h fun y7 hy7 h => zo rfl (zaz (l := a_a) rfl hI rfl sl36 hy7) (zo rfl (zf ty23 rfl) (rvm rfl rfl (rvm rfl rfl (zb h fun y8 hy8 h => ?_)))))))
  refine zo rfl (zaz (l := a_b) rfl hI rfl sl36 hy8) (zo rfl (zf ty23 rfl) (zb h fun y9 hy9 h => zR rfl rfl (zea rfl (s2 rfl rfl) (zfL hy9) hT .nil (fun R H' hR => ?_))))
  obtain ⟨rfl, rfl⟩ := hR
  refine zo rfl (zbq rfl) (zab (zx (zg h rfl (fun _ h => ?_) (fun _ h => ?_))))
  ·refine wsr (oA rfl (rnf (zJ (zH (zA (rL2 _ (zH (zA ?_))))))))
   cases h
   exact zk (.tmp rfl .nil) .nil ⟨rfl, rfl⟩
  refine zac (zi (zx (zh (oM rfl (zz h fun q10 h => oV (zaa rfl rfl q10) (oA rfl (zw ?_)))))))
  exact hL2 _ () h _ (ji 19 7 rfl rfl rfl)
 refine zad (zU (eL2 _ _ (zE (zx (wsr (oA rfl (rnf (zJ ?_))))))))
 cases h
 exact zk (.tmp rfl .nil) .nil ⟨rfl, rfl⟩


theorem zjs : ∀ {a_a : (List (List Int))} {a_b : (List (List Int))} {r : Bool}, zeH a_a a_b = some r → Ctr Tryz.prog 20 [isv (a_a), isv (a_b)] [] (fun R H => R = oneOf [isv (r)] ∧ H = []) := by
 intro a_a a_b r h
 unfold zeH at h
 refine zp Tryz.func20 rfl fun w0 S0 hT => wsr (oA rfl (rnf (wsr (oM rfl (oM rfl (zb h fun y1 hy1 h => oT (zy (zjr hy1) hT (s3 rfl rfl rfl) .nil ?_)))))))
 refine oA rfl (rnf (zJ ?_))
 cases h
 exact zk (.tmp rfl .nil) .nil ⟨rfl, rfl⟩

end Go.Proofs.Q


namespace Go.Proofs.Q
open Go.Sy
set_option maxRecDepth 4000
theorem zhB : ∀ {za0 : Str} {a_i : Int} {r : Bool}, zdy za0 a_i = some r → Ctr Tryz.prog 3 [isv (za0), isv (a_i)] [] (fun R H => R = oneOf [isv (r)] ∧ H = []) := by
 intro za0 a_i r h
 unfold zdy at h
 refine zp Tryz.func3 rfl fun w0 S0 hT => wsr (oA rfl (rnf (wsr (oM rfl (zb h fun y1 hy1 h => oT (zy (zfF hy1) hT (s1 rfl) .nil (oM rfl ?_)))))))
 refine oV (zaB rfl rfl) (oV (zaB rfl rfl) (oT (zaf _ ze26 fun b2 => oT (zm (y' := (y1.1 : GTab)) ty26 rfl rfl hI .here rfl (zG (zaq 5 .here rfl) (oA rfl (rnf (zj (wsr ?_)))))))))
 refine oM rfl (oV (zbq rfl) (rnf (zg h rfl (fun _ h => ?_) (fun _ h => ?_))))
 ·refine wsr (zb h fun y3 hy3 h => oT (zy (zhp hy3) hT .nil .nil (oA rfl (rnf (zJ (zA ?_))))))
  cases h
  exact zk (.tmp rfl .nil) .nil ⟨rfl, rfl⟩
 refine wkf (zj (zS (.t 0 (.v 1 (.v 2 (.v 3 (.v 5 (.v 6 (.t 4 (.t 7 (.v 8 (.v 9 (.v 10 (.v 11 (.v 12 (.v 14 (.v 15 (.t 13 (.t 16 (.t 17 (.v 18 (.v 19 (.v 20 (.v 21 (.v 23 (.v 24 (.t 22 (.t 25 (.t 26 (.v 27 (.v 28 (.v 29 (.v 30 (.v 32 (.v 33 (.t 31 (.t 34 (.t 35 (.v 36 (.v 37 .nil)))))))))))))))))))))))))))))))))))))) moOrd (by kernel_rfl) ?_))
 refine zb h fun y4 hy4 h => zR rfl rfl (zy (zhp hy4) hT .nil .nil (rvm rfl rfl (zc8 (jb 24) je .nil h 8 rfl (fun q5 g5 h => ?_) (fun J6 h hJ6 => ?_))))
 ·refine rvm rfl rfl (zc8 (jb 33) je .nil h 8 rfl (fun q10 g10 h => ?_) (fun J11 h hJ11 => ?_))
  ·refine rvm rfl rfl (zc8 (jb 42) je .nil h 8 rfl (fun q16 g16 h => ?_) (fun J17 h hJ17 => ?_))
   ·refine rvm rfl rfl (zc8 (jb 51) je .nil h 8 rfl (fun q22 g22 h => ?_) (fun J23 h hJ23 => ?_))
    ·refine zo rfl (zaP rfl) (zab (zx (zJ ?_)))
     cases h
     exact zk (.tmp rfl .nil) .nil ⟨rfl, rfl⟩
    refine zaA (j := 43) h rfl (fun g24 h => ?_) (fun g24 h => ?_)
    ·refine rvt 43 rfl rfl rfl g24 (zf ty26 rfl) (rvt 43 rfl rfl rfl g24 (zt rfl) (rvt 43 rfl rfl rfl g24 (zf ty26 rfl) (rvt 43 rfl rfl rfl g24 (zt rfl) (zb h fun y25 hy25 h => zc2 rfl rfl rfl (dj := 43) rfl g24 (zy (zjv hy25) hT (s2 rfl rfl) .nil (zb h fun y26 hy26 h => zc2 rfl rfl rfl (dj := 43) rfl g24 (zy (zkR hy26) hT (s2 rfl rfl) .nil (zb h fun y27 hy27 h => ?_))))))))
     exact zc2 rfl rfl rfl (dj := 43) rfl g24 (zy (zjs hy27) hT (s2 rfl rfl) .nil (zo rfl (zs rfl g24 rfl) (hJ23 _ () h _ (ji 8 51 rfl rfl rfl))))
    exact rpv 43 rfl rfl rfl g24 (rpv 43 rfl rfl rfl g24 (rpv 43 rfl rfl rfl g24 (rpv 43 rfl rfl rfl g24 (za4 rfl rfl (dj := 43) rfl g24 (za4 rfl rfl (dj := 43) rfl g24 (za4 rfl rfl (dj := 43) rfl g24 (zo rfl (zr rfl g24 rfl) (hJ23 _ () h _ (ji 8 51 rfl rfl rfl)))))))))
   refine zaA (j := 34) h rfl (fun g18 h => ?_) (fun g18 h => ?_)
   ·refine rvt 34 rfl rfl rfl g18 (zf ty26 rfl) (rvt 34 rfl rfl rfl g18 (zt rfl) (rvt 34 rfl rfl rfl g18 (zf ty26 rfl) (rvt 34 rfl rfl rfl g18 (zt rfl) (zb h fun y19 hy19 h => zc2 rfl rfl rfl (dj := 34) rfl g18 (zy (zjo hy19) hT (s2 rfl rfl) .nil (zb h fun y20 hy20 h => zc2 rfl rfl rfl (dj := 34) rfl g18 (zy (zlo hy20) hT (s2 rfl rfl) .nil (zb h fun y21 hy21 h => ?_))))))))
    exact zc2 rfl rfl rfl (dj := 34) rfl g18 (zy (zfL hy21) hT (s2 rfl rfl) .nil (zo rfl (zs rfl g18 rfl) (hJ17 _ () h _ (ji 8 42 rfl rfl rfl))))
   exact rpv 34 rfl rfl rfl g18 (rpv 34 rfl rfl rfl g18 (rpv 34 rfl rfl rfl g18 (rpv 34 rfl rfl rfl g18 (za4 rfl rfl (dj := 34) rfl g18 (za4 rfl rfl (dj := 34) rfl g18 (za4 rfl rfl (dj := 34) rfl g18 (zo rfl (zr rfl g18 rfl) (hJ17 _ () h _ (ji 8 42 rfl rfl rfl)))))))))
  refine zaA (j := 25) h rfl (fun g12 h => ?_) (fun g12 h => ?_)
  ·refine rvt 25 rfl rfl rfl g12 (zf ty26 rfl) (rvt 25 rfl rfl rfl g12 (zt rfl) (rvt 25 rfl rfl rfl g12 (zf ty26 rfl) (rvt 25 rfl rfl rfl g12 (zt rfl) (zb h fun y13 hy13 h => zc2 rfl rfl rfl (dj := 25) rfl g12 (zy (zgO hy13) hT (s2 rfl rfl) .nil (zb h fun y14 hy14 h => zc2 rfl rfl rfl (dj := 25) rfl g12 (zy (zkk hy14) hT (s2 rfl rfl) .nil (zb h fun y15 hy15 h => ?_))))))))
   exact zc2 rfl rfl rfl (dj := 25) rfl g12 (zy (zfL hy15) hT (s2 rfl rfl) .nil (zo rfl (zs rfl g12 rfl) (hJ11 _ () h _ (ji 8 33 rfl rfl rfl))))
  exact rpv 25 rfl rfl rfl g12 (rpv 25 rfl rfl rfl g12 (rpv 25 rfl rfl rfl g12 (rpv 25 rfl rfl rfl g12 (za4 rfl rfl (dj := 25) rfl g12 (za4 rfl rfl (dj := 25) rfl g12 (za4 rfl rfl (dj := 25) rfl g12 (zo rfl (zr rfl g12 rfl) (hJ11 _ () h _ (ji 8 33 rfl rfl rfl)))))))))
 refine zaA (j := 16) h rfl (fun g7 h => ?_) (fun g7 h => ?_)
 ·refine rvt 16 rfl rfl rfl g7 (zf ty26 rfl) (rvt 16 rfl rfl rfl g7 (zt rfl) (rvt 16 rfl rfl rfl g7 (zf ty26 rfl) (rvt 16 rfl rfl rfl g7 (zt rfl) (zb h fun y8 hy8 h => zc2 rfl rfl rfl (dj := 16) rfl g7 (zy (zaG hy8) hT (s2 rfl rfl) .nil (zb h fun y9 hy9 h => zc2 rfl rfl rfl (dj := 16) rfl g7 (zy (zgX hy9) hT (s2 rfl rfl) .nil (rvt 16 rfl rfl rfl g7 (zcz eq31 rfl rfl) ?_))))))))
  exact zo rfl (zs rfl g7 rfl) (hJ6 _ () h _ (ji 8 24 rfl rfl rfl))
 exact rpv 16 rfl rfl rfl g7 (rpv 16 rfl rfl rfl g7 (rpv 16 rfl rfl rfl g7 (rpv 16 rfl rfl rfl g7 (za4 rfl rfl (dj := 16) rfl g7 (za4 rfl rfl (dj := 16) rfl g7 (rpv 16 rfl rfl rfl g7 (zo rfl (zr rfl g7 rfl) (hJ6 _ () h _ (ji 8 24 rfl rfl rfl)))))))))

end Go.Proofs.Q

