/- ExtendBounds: for every value of its arguments the law returns true, and each argument reads behind the call as it read before; what the tables of utf8 hold is tied to the program's text. No condition. -/
import Derived.Test.YtajbipkppngccaaDoorExA
import Derived.Test.YtajbipkppngccaaDoorExB
import Derived.Test.YtajbipkppngccaaDoorExC
import Derived.Test.YtajbipkppngccaaDoorExD
import Derived.Test.YtajbipkppngccaaDoorExE
import Derived.Test.YtajbipkppngccaaDoorExF
import Derived.Test.YtajbipkppngccaaDoorRows
import Derived.Test.YtajbipkppngccaaDoorTie
import Derived.Test.YtajbipkppngccaaDoorCards
import Derived.SevenTiedAt
set_option linter.unusedVariables false
set_option linter.unusedSimpArgs false

namespace Go.Proofs.YtajbipkppngccaaDoor
open Go.Sy
set_option maxRecDepth 4000
def law21_ExtendBounds (a_low : Int) (a_high : Int) (a_other : Int) (a_deep : Int) : Option (Bool) :=
  asr (!decide ((9 : UInt64) = 0)) <| ck ((((UInt64.ofNat (a_low % 18446744073709551616).toNat) % (9 : UInt64)).toNat : Int)) <| asr (!decide ((9 : UInt64) = 0)) <| ck ((((UInt64.ofNat (a_high % 18446744073709551616).toNat) % (9 : UInt64)).toNat : Int)) <| ck (((9 : Int) + (((UInt64.ofNat (a_high % 18446744073709551616).toNat) % (9 : UInt64)).toNat : Int))) <| asr (!decide ((5 : UInt64) = 0)) <| ck ((((UInt64.ofNat (a_other % 18446744073709551616).toNat) % (5 : UInt64)).toNat : Int)) <| asr (!decide ((4 : UInt64) = 0)) <| ck ((((UInt64.ofNat (a_deep % 18446744073709551616).toNat) % (4 : UInt64)).toNat : Int)) <| cal (h_Digits fuel (UInt64.ofNat ((((UInt64.ofNat (a_low % 18446744073709551616).toNat) % (9 : UInt64)).toNat : Int) % 18446744073709551616).toNat)) fun y10 => asr (Nat.ble ((Str.mk [73, 78, 84, 69, 71, 69, 82, 32, 40]).b.length + y10.b.length) 4611686018427387904) <| asr (Nat.ble ((Str.mk ((Str.mk [73, 78, 84, 69, 71, 69, 82, 32, 40]).b ++ y10.b)).b.length + (Str.mk [46, 46]).b.length) 4611686018427387904) <| cal (h_Digits fuel (UInt64.ofNat (((9 : Int) + (((UInt64.ofNat (a_high % 18446744073709551616).toNat) % (9 : UInt64)).toNat : Int)) % 18446744073709551616).toNat)) fun y13 => asr (Nat.ble ((Str.mk ((Str.mk ((Str.mk [73, 78, 84, 69, 71, 69, 82, 32, 40]).b ++ y10.b)).b ++ (Str.mk [46, 46]).b)).b.length + y13.b.length) 4611686018427387904) <| asr (Nat.ble ((Str.mk ((Str.mk ((Str.mk ((Str.mk [73, 78, 84, 69, 71, 69, 82, 32, 40]).b ++ y10.b)).b ++ (Str.mk [46, 46]).b)).b ++ y13.b)).b.length + (Str.mk [41]).b.length) 4611686018427387904) <| cal (h_Digits fuel (UInt64.ofNat ((((UInt64.ofNat (a_low % 18446744073709551616).toNat) % (9 : UInt64)).toNat : Int) % 18446744073709551616).toNat)) fun y16 => asr (Nat.ble ((Str.mk [73, 78, 84, 69, 71, 69, 82, 32, 40]).b.length + y16.b.length) 4611686018427387904) <| asr (Nat.ble ((Str.mk ((Str.mk [73, 78, 84, 69, 71, 69, 82, 32, 40]).b ++ y16.b)).b.length + (Str.mk [46, 46]).b.length) 4611686018427387904) <| ck ((((9 : Int) + (((UInt64.ofNat (a_high % 18446744073709551616).toNat) % (9 : UInt64)).toNat : Int)) + (1 : Int))) <| cal (h_Digits fuel (UInt64.ofNat ((((9 : Int) + (((UInt64.ofNat (a_high % 18446744073709551616).toNat) % (9 : UInt64)).toNat : Int)) + (1 : Int)) % 18446744073709551616).toNat)) fun y20 => asr (Nat.ble ((Str.mk ((Str.mk ((Str.mk [73, 78, 84, 69, 71, 69, 82, 32, 40]).b ++ y16.b)).b ++ (Str.mk [46, 46]).b)).b.length + y20.b.length) 4611686018427387904) <| asr (Nat.ble ((Str.mk ((Str.mk ((Str.mk ((Str.mk [73, 78, 84, 69, 71, 69, 82, 32, 40]).b ++ y16.b)).b ++ (Str.mk [46, 46]).b)).b ++ y20.b)).b.length + (Str.mk [41]).b.length) 4611686018427387904) <| cal (h_Digits fuel (UInt64.ofNat ((((UInt64.ofNat (a_low % 18446744073709551616).toNat) % (9 : UInt64)).toNat : Int) % 18446744073709551616).toNat)) fun y23 => asr (Nat.ble ((Str.mk [73, 78, 84, 69, 71, 69, 82, 32, 40]).b.length + y23.b.length) 4611686018427387904) <| asr (Nat.ble ((Str.mk ((Str.mk [73, 78, 84, 69, 71, 69, 82, 32, 40]).b ++ y23.b)).b.length + (Str.mk [46, 46]).b.length) 4611686018427387904) <| cal (h_Digits fuel (UInt64.ofNat (((9 : Int) + (((UInt64.ofNat (a_high % 18446744073709551616).toNat) % (9 : UInt64)).toNat : Int)) % 18446744073709551616).toNat)) fun y26 => asr (Nat.ble ((Str.mk ((Str.mk ((Str.mk [73, 78, 84, 69, 71, 69, 82, 32, 40]).b ++ y23.b)).b ++ (Str.mk [46, 46]).b)).b.length + y26.b.length) 4611686018427387904) <| asr (Nat.ble ((Str.mk ((Str.mk ((Str.mk ((Str.mk [73, 78, 84, 69, 71, 69, 82, 32, 40]).b ++ y23.b)).b ++ (Str.mk [46, 46]).b)).b ++ y26.b)).b.length + (Str.mk [44, 32, 46, 46, 46, 41]).b.length) 4611686018427387904) <| asr (Nat.ble ((Str.mk [91, 55, 93, 32]).b.length + (Str.mk ((Str.mk ((Str.mk ((Str.mk ((Str.mk [73, 78, 84, 69, 71, 69, 82, 32, 40]).b ++ y10.b)).b ++ (Str.mk [46, 46]).b)).b ++ y13.b)).b ++ (Str.mk [41]).b)).b.length) 4611686018427387904) <| cal (getI ([(Str.mk ((Str.mk ((Str.mk ((Str.mk ((Str.mk [73, 78, 84, 69, 71, 69, 82, 32, 40]).b ++ y10.b)).b ++ (Str.mk [46, 46]).b)).b ++ y13.b)).b ++ (Str.mk [41]).b)), (Str.mk ((Str.mk ((Str.mk ((Str.mk ((Str.mk [73, 78, 84, 69, 71, 69, 82, 32, 40]).b ++ y16.b)).b ++ (Str.mk [46, 46]).b)).b ++ y20.b)).b ++ (Str.mk [41]).b)), (Str.mk ((Str.mk ((Str.mk ((Str.mk ((Str.mk [73, 78, 84, 69, 71, 69, 82, 32, 40]).b ++ y23.b)).b ++ (Str.mk [46, 46]).b)).b ++ y26.b)).b ++ (Str.mk [44, 32, 46, 46, 46, 41]).b)), (Str.mk ((Str.mk [91, 55, 93, 32]).b ++ (Str.mk ((Str.mk ((Str.mk ((Str.mk ((Str.mk [73, 78, 84, 69, 71, 69, 82, 32, 40]).b ++ y10.b)).b ++ (Str.mk [46, 46]).b)).b ++ y13.b)).b ++ (Str.mk [41]).b)).b)), (Str.mk [66, 79, 79, 76, 69, 65, 78])] : (List Str)) (((UInt64.ofNat (a_other % 18446744073709551616).toNat) % (5 : UInt64)).toNat : Int)) fun y31 => lp (ι := Str × Str × Int) (fun L33 q32 => br (decide (q32.2.2 < (((UInt64.ofNat (a_deep % 18446744073709551616).toNat) % (4 : UInt64)).toNat : Int))) (asr (Nat.ble ((Str.mk [83, 69, 81, 85, 69, 78, 67, 69, 32, 123, 32, 97, 32, 83, 69, 81, 85, 69, 78, 67, 69, 32, 79, 70, 32]).b.length + q32.1.b.length) 4611686018427387904) <| asr (Nat.ble ((Str.mk ((Str.mk [83, 69, 81, 85, 69, 78, 67, 69, 32, 123, 32, 97, 32, 83, 69, 81, 85, 69, 78, 67, 69, 32, 79, 70, 32]).b ++ q32.1.b)).b.length + (Str.mk [44, 32, 46, 46, 46, 32, 125]).b.length) 4611686018427387904) <| asr (Nat.ble ((Str.mk [83, 69, 81, 85, 69, 78, 67, 69, 32, 123, 32, 97, 32, 83, 69, 81, 85, 69, 78, 67, 69, 32, 79, 70, 32]).b.length + q32.2.1.b.length) 4611686018427387904) <| asr (Nat.ble ((Str.mk ((Str.mk [83, 69, 81, 85, 69, 78, 67, 69, 32, 123, 32, 97, 32, 83, 69, 81, 85, 69, 78, 67, 69, 32, 79, 70, 32]).b ++ q32.2.1.b)).b.length + (Str.mk [44, 32, 46, 46, 46, 44, 32, 122, 32, 91, 57, 93, 32, 78, 85, 76, 76, 32, 125]).b.length) 4611686018427387904) <| ck ((q32.2.2 + (1 : Int))) <| L33 ((Str.mk ((Str.mk ((Str.mk [83, 69, 81, 85, 69, 78, 67, 69, 32, 123, 32, 97, 32, 83, 69, 81, 85, 69, 78, 67, 69, 32, 79, 70, 32]).b ++ q32.1.b)).b ++ (Str.mk [44, 32, 46, 46, 46, 32, 125]).b)), (Str.mk ((Str.mk ((Str.mk [83, 69, 81, 85, 69, 78, 67, 69, 32, 123, 32, 97, 32, 83, 69, 81, 85, 69, 78, 67, 69, 32, 79, 70, 32]).b ++ q32.2.1.b)).b ++ (Str.mk [44, 32, 46, 46, 46, 44, 32, 122, 32, 91, 57, 93, 32, 78, 85, 76, 76, 32, 125]).b)), (q32.2.2 + (1 : Int)))) (cal (law21_one q32.1 q32.2.1) fun y52 => cal (law21_awake ) fun y53 => jp (ι := Bool) (fun J55 => br y53 (J55 (y52.2)) (J55 (false))) (fun q54 => jp (ι := Bool) (fun J58 => br q54 (J58 ((decide (y52.1 = (decide ((((UInt64.ofNat (a_other % 18446744073709551616).toNat) % (5 : UInt64)).toNat : Int) = (0 : Int))))))) (J58 (false))) (fun q57 => some (q57))))) (((Str.mk ((Str.mk ((Str.mk ((Str.mk ((Str.mk [73, 78, 84, 69, 71, 69, 82, 32, 40]).b ++ y10.b)).b ++ (Str.mk [46, 46]).b)).b ++ y13.b)).b ++ (Str.mk [41]).b)), y31, (0 : Int)))
end Go.Proofs.YtajbipkppngccaaDoor


namespace Go.Proofs.YtajbipkppngccaaDoor
open Go.Sy
set_option maxRecDepth 4000
end Go.Proofs.YtajbipkppngccaaDoor


namespace Go.Proofs.YtajbipkppngccaaDoor
open Go.Sy
set_option maxRecDepth 4000
theorem law21_ExtendBounds_w : ∀ {a_low : Int} {a_high : Int} {a_other : Int} {a_deep : Int} {r : Bool}, law21_ExtendBounds a_low a_high a_other a_deep = some r → Ctr Tryd.prog 7 [isv (a_low), isv (a_high), isv (a_other), isv (a_deep)] [] (fun R H => R = oneOf [isv (r)] ∧ H = []) := by
 intro a_low a_high a_other a_deep r h
 unfold law21_ExtendBounds at h
 refine spec_intro Tryd.func7 rfl (by decide +kernel) (by rfl) fun w0 S0 hT => ?_
 refine wsr ?_
 refine oV (v_assign rfl) ?_
 refine rnf ?_
 refine wsr ?_
 refine oV (v_move rfl) ?_
 refine oV (v_toU Tryd.underlying3 Tryd.underlying37 rfl) ?_
 refine asr_inv h fun q1 h => ?_
 refine oV (v_rem64 rfl rfl q1) ?_
 refine ck_inv h fun q2 h => ?_
 refine oV (v_u64i Tryd.underlying37 Tryd.underlying3 rfl q2) ?_
 refine oV (v_move rfl) ?_
 refine oV (v_toU Tryd.underlying3 Tryd.underlying37 rfl) ?_
 refine asr_inv h fun q3 h => ?_
 refine oV (v_rem64 rfl rfl q3) ?_
 refine ck_inv h fun q4 h => ?_
 refine oV (v_u64i Tryd.underlying37 Tryd.underlying3 rfl q4) ?_
 refine ck_inv h fun q5 h => ?_
 refine oV (v_add rfl rfl q5) ?_
 refine oV (v_move rfl) ?_
 refine oV (v_toU Tryd.underlying3 Tryd.underlying37 rfl) ?_
 refine asr_inv h fun q6 h => ?_
 refine oV (v_rem64 rfl rfl q6) ?_
 refine ck_inv h fun q7 h => ?_
 refine oV (v_u64i Tryd.underlying37 Tryd.underlying3 rfl q7) ?_
 refine oV (v_assign rfl) ?_
 refine oV (v_assign rfl) ?_
 refine oV (v_assign rfl) ?_
 refine rnf ?_
 refine wsr ?_
 refine oV (v_move rfl) ?_
 refine oV (v_toU Tryd.underlying3 Tryd.underlying37 rfl) ?_
 refine asr_inv h fun q8 h => ?_
 refine oV (v_rem64 rfl rfl q8) ?_
 refine ck_inv h fun q9 h => ?_
 refine oV (v_u64i Tryd.underlying37 Tryd.underlying3 rfl q9) ?_
 refine oV (v_assign rfl) ?_
 refine rnf ?_
 refine wsr ?_
 refine oV (v_move rfl) ?_
 refine oV (v_toU Tryd.underlying3 Tryd.underlying39 rfl) ?_
 refine cal_inv h fun y10 hy10 h => ?_
 refine oT (t_call (h_Digits_w fuel hy10) hT (.same rfl .nil) .nil (fun R H' hR => ?_))
 obtain ⟨rfl, rfl⟩ := hR
 refine asr_inv h fun q11 h => ?_
 refine oV (v_cat rfl rfl q11) ?_
 refine asr_inv h fun q12 h => ?_
 refine oV (v_cat rfl rfl q12) ?_
 refine oV (v_move rfl) ?_
 refine oV (v_toU Tryd.underlying3 Tryd.underlying39 rfl) ?_
 refine cal_inv h fun y13 hy13 h => ?_
 refine oT (t_call (h_Digits_w fuel hy13) hT (.same rfl .nil) .nil (fun R H' hR => ?_))
 obtain ⟨rfl, rfl⟩ := hR
 refine asr_inv h fun q14 h => ?_
 refine oV (v_cat rfl rfl q14) ?_
 refine asr_inv h fun q15 h => ?_
 refine oV (v_cat rfl rfl q15) ?_
 refine oV (v_assign rfl) ?_
 refine rnf ?_
 refine wsr ?_
 refine oV (v_move rfl) ?_
 refine oV (v_move rfl) ?_
 refine oV (v_toU Tryd.underlying3 Tryd.underlying39 rfl) ?_
 refine cal_inv h fun y16 hy16 h => ?_
 refine oT (t_call (h_Digits_w fuel hy16) hT (.same rfl .nil) .nil (fun R H' hR => ?_))
 obtain ⟨rfl, rfl⟩ := hR
 refine asr_inv h fun q17 h => ?_
 refine oV (v_cat rfl rfl q17) ?_
 refine asr_inv h fun q18 h => ?_
 refine oV (v_cat rfl rfl q18) ?_
 refine oV (v_move rfl) ?_
 refine ck_inv h fun q19 h => ?_
 refine oV (v_add rfl rfl q19) ?_
 refine oV (v_toU Tryd.underlying3 Tryd.underlying39 rfl) ?_
 refine cal_inv h fun y20 hy20 h => ?_
 refine oT (t_call (h_Digits_w fuel hy20) hT (.same rfl .nil) .nil (fun R H' hR => ?_))
 obtain ⟨rfl, rfl⟩ := hR
 refine asr_inv h fun q21 h => ?_
 refine oV (v_cat rfl rfl q21) ?_
 refine asr_inv h fun q22 h => ?_
 refine oV (v_cat rfl rfl q22) ?_
 refine oV (v_move rfl) ?_
 refine oV (v_toU Tryd.underlying3 Tryd.underlying39 rfl) ?_
 refine cal_inv h fun y23 hy23 h => ?_
 refine oT (t_call (h_Digits_w fuel hy23) hT (.same rfl .nil) .nil (fun R H' hR => ?_))
 obtain ⟨rfl, rfl⟩ := hR
 refine asr_inv h fun q24 h => ?_
 refine oV (v_cat rfl rfl q24) ?_
 refine asr_inv h fun q25 h => ?_
 refine oV (v_cat rfl rfl q25) ?_
 refine oV (v_move rfl) ?_
 refine oV (v_toU Tryd.underlying3 Tryd.underlying39 rfl) ?_
 refine cal_inv h fun y26 hy26 h => ?_
 refine oT (t_call (h_Digits_w fuel hy26) hT (.same rfl .nil) .nil (fun R H' hR => ?_))
 obtain ⟨rfl, rfl⟩ := hR
 refine asr_inv h fun q27 h => ?_
 refine oV (v_cat rfl rfl q27) ?_
 refine asr_inv h fun q28 h => ?_
 refine oV (v_cat rfl rfl q28) ?_
 refine oV (v_move rfl) ?_
 refine asr_inv h fun q29 h => ?_
 refine oV (v_cat rfl rfl q29) ?_
 refine oT (t_buildSlice (l := ([(Str.mk ((Str.mk ((Str.mk ((Str.mk ((Str.mk [73, 78, 84, 69, 71, 69, 82, 32, 40]).b ++ y10.b)).b ++ (Str.mk [46, 46]).b)).b ++ y13.b)).b ++ (Str.mk [41]).b)), (Str.mk ((Str.mk ((Str.mk ((Str.mk ((Str.mk [73, 78, 84, 69, 71, 69, 82, 32, 40]).b ++ y16.b)).b ++ (Str.mk [46, 46]).b)).b ++ y20.b)).b ++ (Str.mk [41]).b)), (Str.mk ((Str.mk ((Str.mk ((Str.mk ((Str.mk [73, 78, 84, 69, 71, 69, 82, 32, 40]).b ++ y23.b)).b ++ (Str.mk [46, 46]).b)).b ++ y26.b)).b ++ (Str.mk [44, 32, 46, 46, 46, 41]).b)), (Str.mk ((Str.mk [91, 55, 93, 32]).b ++ (Str.mk ((Str.mk ((Str.mk ((Str.mk ((Str.mk [73, 78, 84, 69, 71, 69, 82, 32, 40]).b ++ y10.b)).b ++ (Str.mk [46, 46]).b)).b ++ y13.b)).b ++ (Str.mk [41]).b)).b)), (Str.mk [66, 79, 79, 76, 69, 65, 78])] : (List Str))) el22 (.cons rfl (fun _ _ h => h) (.cons rfl (fun _ _ h => h) (.cons rfl (fun _ _ h => h) (.cons rfl (fun _ _ h => h) (.cons rfl (fun _ _ h => h) .nil))))) rfl rfl ?_)
 refine oV (v_move rfl) ?_
 refine cal_inv h fun y31 hy31 h => ?_
 refine oV (v_ix (l := ([(Str.mk ((Str.mk ((Str.mk ((Str.mk ((Str.mk [73, 78, 84, 69, 71, 69, 82, 32, 40]).b ++ y10.b)).b ++ (Str.mk [46, 46]).b)).b ++ y13.b)).b ++ (Str.mk [41]).b)), (Str.mk ((Str.mk ((Str.mk ((Str.mk ((Str.mk [73, 78, 84, 69, 71, 69, 82, 32, 40]).b ++ y16.b)).b ++ (Str.mk [46, 46]).b)).b ++ y20.b)).b ++ (Str.mk [41]).b)), (Str.mk ((Str.mk ((Str.mk ((Str.mk ((Str.mk [73, 78, 84, 69, 71, 69, 82, 32, 40]).b ++ y23.b)).b ++ (Str.mk [46, 46]).b)).b ++ y26.b)).b ++ (Str.mk [44, 32, 46, 46, 46, 41]).b)), (Str.mk ((Str.mk [91, 55, 93, 32]).b ++ (Str.mk ((Str.mk ((Str.mk ((Str.mk ((Str.mk [73, 78, 84, 69, 71, 69, 82, 32, 40]).b ++ y10.b)).b ++ (Str.mk [46, 46]).b)).b ++ y13.b)).b ++ (Str.mk [41]).b)).b)), (Str.mk [66, 79, 79, 76, 69, 65, 78])] : (List Str))) rfl appv_isv rfl sl22 hy31) ?_
 refine oV (v_loadI ty9 rfl) ?_
 refine oV (v_assign rfl) ?_
 refine rnf ?_
 refine w_seq ?_
 refine wsr ?_
 refine oV (v_assign rfl) ?_
 refine rnf ?_
 refine w_block ?_
 refine w_lp (ι := Str × Str × Int) (γ := Unit) (fun q32 g32 => [(9, isv (q32.1)), (10, isv (q32.2.1)), (11, isv (q32.2.2))]) (fun q32 g32 => []) h () (mod_cons (j := 9) rfl (fun _ _ h => h) (mod_cons (j := 10) rfl (fun _ _ h => h) (mod_cons (j := 11) rfl (fun _ _ h => h) mod_nil))) .nil (fun L33 q32 g32 Q60 h hL33 eL33 rL33 => ?_)
 refine w_seq ?_
 refine wsr ?_
 refine oV (v_move rfl) ?_
 refine oV (v_move rfl) ?_
 refine oV (v_lss rfl rfl) ?_
 refine rnf ?_
 refine w_condM h rfl (fun _ h => ?_) (fun _ h => ?_)
 ·
  refine wkf ?_
  refine w_seq ?_
  refine w_block ?_
  refine w_region ?_
  refine oV (v_move rfl) ?_
  refine asr_inv h fun q47 h => ?_
  refine oV (v_cat rfl rfl q47) ?_
  refine asr_inv h fun q48 h => ?_
  refine oV (v_cat rfl rfl q48) ?_
  refine oV (v_move rfl) ?_
  refine asr_inv h fun q49 h => ?_
  refine oV (v_cat rfl rfl q49) ?_
  refine asr_inv h fun q50 h => ?_
  refine oV (v_cat rfl rfl q50) ?_
  refine oV (v_assign rfl) ?_
  refine oV (v_assign rfl) ?_
  refine rl_nil ?_
  refine fin_block ?_
  refine fin_nxt ?_
  refine w_region ?_
  refine oV (v_move rfl) ?_
  refine ck_inv h fun q51 h => ?_
  refine oV (v_add rfl rfl q51) ?_
  refine oV (v_assign rfl) ?_
  refine rl_nil ?_
  exact hL33 _ () h _ (join_imp 17 rfl rfl (mod_cons (j := 9) rfl (fun _ _ h => h) (mod_cons (j := 10) rfl (fun _ _ h => h) (mod_cons (j := 11) rfl (fun _ _ h => h) mod_nil))) .nil)
 ·
  refine w_exit ?_
  refine exi_nxt ?_
  refine eL33 _ _ ?_
  refine exi_block ?_
  refine fin_nxt ?_
  refine wsr ?_
  refine oV (v_move rfl) ?_
  refine oV (v_move rfl) ?_
  refine cal_inv h fun y52 hy52 h => ?_
  refine oT (t_call (law21_one_w hy52) hT (.same rfl (.same rfl .nil)) .nil (fun R H' hR => ?_))
  obtain ⟨rfl, rfl⟩ := hR
  refine oV (v_move rfl) ?_
  refine oV (v_extract rfl rfl) ?_
  refine oV (v_extract rfl rfl) ?_
  refine oV (v_assign rfl) ?_
  refine oV (v_assign rfl) ?_
  refine rnf ?_
  refine wsr ?_
  refine cal_inv h fun y53 hy53 h => ?_
  refine oT (t_call (law21_awake_w hy53) hT .nil .nil (fun R H' hR => ?_))
  obtain ⟨rfl, rfl⟩ := hR
  refine oV (v_move rfl) ?_
  refine rl_j (ι := Bool) (γ := Unit) (fun q54 g54 => [(89, isv (q54))]) (fun q54 g54 => []) .nil h 2 rfl (fun q54 g54 h => ?_) (fun J55 h hJ55 => ?_)
  ·
   refine oV (v_move rfl) ?_
   refine rl_j (ι := Bool) (γ := Unit) (fun q57 g57 => [(95, isv (q57))]) (fun q57 g57 => []) .nil h 5 rfl (fun q57 g57 h => ?_) (fun J58 h hJ58 => ?_)
   ·
    refine oV (v_assign rfl) ?_
    refine rnf ?_
    refine w_ret ?_
    refine ret_post (.tmp rfl .nil) .nil ?_
    obtain rfl := Option.some.inj h
    exact ⟨rfl, rfl⟩
   ·
    refine rl_condM (j := 90) h rfl (fun g59 h => ?_) (fun g59 h => ?_)
    ·
     refine op_take rfl rfl (dj := 90) rfl g59 (OpV.t (v_move rfl) ?_)
     refine op_take rfl rfl (dj := 90) rfl g59 (OpV.t (v_move rfl) ?_)
     refine op_take rfl rfl (dj := 90) rfl g59 (OpV.t (v_eql rfl rfl) ?_)
     refine op_take rfl rfl (dj := 90) rfl g59 (OpV.t (v_eqA eq4 rfl rfl) ?_)
     refine oV (v_pick_t rfl g59 rfl) ?_
     exact hJ58 _ () h _ (join_imp 5 rfl rfl (mod_cons (j := 95) rfl (fun _ _ h => h) mod_nil) .nil)
    ·
     refine op_pass rfl (dj := 90) rfl g59 ?_
     refine op_pass rfl (dj := 90) rfl g59 ?_
     refine op_pass rfl (dj := 90) rfl g59 ?_
     refine op_pass rfl (dj := 90) rfl g59 ?_
     refine oV (v_pick_f rfl g59 rfl) ?_
     exact hJ58 _ () h _ (join_imp 5 rfl rfl (mod_cons (j := 95) rfl (fun _ _ h => h) mod_nil) .nil)
  ·
   refine rl_condM (j := 87) h rfl (fun g56 h => ?_) (fun g56 h => ?_)
   ·
    refine op_take rfl rfl (dj := 87) rfl g56 (OpV.t (v_move rfl) ?_)
    refine oV (v_pick_t rfl g56 rfl) ?_
    exact hJ55 _ () h _ (join_imp 2 rfl rfl (mod_cons (j := 89) rfl (fun _ _ h => h) mod_nil) .nil)
   ·
    refine op_pass rfl (dj := 87) rfl g56 ?_
    refine oV (v_pick_f rfl g56 rfl) ?_
    exact hJ55 _ () h _ (join_imp 2 rfl rfl (mod_cons (j := 89) rfl (fun _ _ h => h) mod_nil) .nil)

end Go.Proofs.YtajbipkppngccaaDoor


namespace Go.Proofs.YtajbipkppngccaaDoor
open Go.Sy
set_option maxRecDepth 4000
def law21_ExtendBoundsF (a_low : Int) (a_high : Int) (a_other : Int) (a_deep : Int) : Option (Bool) :=
  asr (!decide ((9 : UInt64) = 0)) <| ck ((((UInt64.ofNat (a_low % 18446744073709551616).toNat) % (9 : UInt64)).toNat : Int)) <| asr (!decide ((9 : UInt64) = 0)) <| ck ((((UInt64.ofNat (a_high % 18446744073709551616).toNat) % (9 : UInt64)).toNat : Int)) <| ck (((9 : Int) + (((UInt64.ofNat (a_high % 18446744073709551616).toNat) % (9 : UInt64)).toNat : Int))) <| asr (!decide ((5 : UInt64) = 0)) <| ck ((((UInt64.ofNat (a_other % 18446744073709551616).toNat) % (5 : UInt64)).toNat : Int)) <| asr (!decide ((4 : UInt64) = 0)) <| ck ((((UInt64.ofNat (a_deep % 18446744073709551616).toNat) % (4 : UInt64)).toNat : Int)) <| cal (h_Digits fuel (UInt64.ofNat ((((UInt64.ofNat (a_low % 18446744073709551616).toNat) % (9 : UInt64)).toNat : Int) % 18446744073709551616).toNat)) fun y10 => asr (Nat.ble ((Str.mk [73, 78, 84, 69, 71, 69, 82, 32, 40]).b.length + y10.b.length) 4611686018427387904) <| asr (Nat.ble ((Str.mk ((Str.mk [73, 78, 84, 69, 71, 69, 82, 32, 40]).b ++ y10.b)).b.length + (Str.mk [46, 46]).b.length) 4611686018427387904) <| cal (h_Digits fuel (UInt64.ofNat (((9 : Int) + (((UInt64.ofNat (a_high % 18446744073709551616).toNat) % (9 : UInt64)).toNat : Int)) % 18446744073709551616).toNat)) fun y13 => asr (Nat.ble ((Str.mk ((Str.mk ((Str.mk [73, 78, 84, 69, 71, 69, 82, 32, 40]).b ++ y10.b)).b ++ (Str.mk [46, 46]).b)).b.length + y13.b.length) 4611686018427387904) <| asr (Nat.ble ((Str.mk ((Str.mk ((Str.mk ((Str.mk [73, 78, 84, 69, 71, 69, 82, 32, 40]).b ++ y10.b)).b ++ (Str.mk [46, 46]).b)).b ++ y13.b)).b.length + (Str.mk [41]).b.length) 4611686018427387904) <| cal (h_Digits fuel (UInt64.ofNat ((((UInt64.ofNat (a_low % 18446744073709551616).toNat) % (9 : UInt64)).toNat : Int) % 18446744073709551616).toNat)) fun y16 => asr (Nat.ble ((Str.mk [73, 78, 84, 69, 71, 69, 82, 32, 40]).b.length + y16.b.length) 4611686018427387904) <| asr (Nat.ble ((Str.mk ((Str.mk [73, 78, 84, 69, 71, 69, 82, 32, 40]).b ++ y16.b)).b.length + (Str.mk [46, 46]).b.length) 4611686018427387904) <| ck ((((9 : Int) + (((UInt64.ofNat (a_high % 18446744073709551616).toNat) % (9 : UInt64)).toNat : Int)) + (1 : Int))) <| cal (h_Digits fuel (UInt64.ofNat ((((9 : Int) + (((UInt64.ofNat (a_high % 18446744073709551616).toNat) % (9 : UInt64)).toNat : Int)) + (1 : Int)) % 18446744073709551616).toNat)) fun y20 => asr (Nat.ble ((Str.mk ((Str.mk ((Str.mk [73, 78, 84, 69, 71, 69, 82, 32, 40]).b ++ y16.b)).b ++ (Str.mk [46, 46]).b)).b.length + y20.b.length) 4611686018427387904) <| asr (Nat.ble ((Str.mk ((Str.mk ((Str.mk ((Str.mk [73, 78, 84, 69, 71, 69, 82, 32, 40]).b ++ y16.b)).b ++ (Str.mk [46, 46]).b)).b ++ y20.b)).b.length + (Str.mk [41]).b.length) 4611686018427387904) <| cal (h_Digits fuel (UInt64.ofNat ((((UInt64.ofNat (a_low % 18446744073709551616).toNat) % (9 : UInt64)).toNat : Int) % 18446744073709551616).toNat)) fun y23 => asr (Nat.ble ((Str.mk [73, 78, 84, 69, 71, 69, 82, 32, 40]).b.length + y23.b.length) 4611686018427387904) <| asr (Nat.ble ((Str.mk ((Str.mk [73, 78, 84, 69, 71, 69, 82, 32, 40]).b ++ y23.b)).b.length + (Str.mk [46, 46]).b.length) 4611686018427387904) <| cal (h_Digits fuel (UInt64.ofNat (((9 : Int) + (((UInt64.ofNat (a_high % 18446744073709551616).toNat) % (9 : UInt64)).toNat : Int)) % 18446744073709551616).toNat)) fun y26 => asr (Nat.ble ((Str.mk ((Str.mk ((Str.mk [73, 78, 84, 69, 71, 69, 82, 32, 40]).b ++ y23.b)).b ++ (Str.mk [46, 46]).b)).b.length + y26.b.length) 4611686018427387904) <| asr (Nat.ble ((Str.mk ((Str.mk ((Str.mk ((Str.mk [73, 78, 84, 69, 71, 69, 82, 32, 40]).b ++ y23.b)).b ++ (Str.mk [46, 46]).b)).b ++ y26.b)).b.length + (Str.mk [44, 32, 46, 46, 46, 41]).b.length) 4611686018427387904) <| asr (Nat.ble ((Str.mk [91, 55, 93, 32]).b.length + (Str.mk ((Str.mk ((Str.mk ((Str.mk ((Str.mk [73, 78, 84, 69, 71, 69, 82, 32, 40]).b ++ y10.b)).b ++ (Str.mk [46, 46]).b)).b ++ y13.b)).b ++ (Str.mk [41]).b)).b.length) 4611686018427387904) <| cal (getI ([(Str.mk ((Str.mk ((Str.mk ((Str.mk ((Str.mk [73, 78, 84, 69, 71, 69, 82, 32, 40]).b ++ y10.b)).b ++ (Str.mk [46, 46]).b)).b ++ y13.b)).b ++ (Str.mk [41]).b)), (Str.mk ((Str.mk ((Str.mk ((Str.mk ((Str.mk [73, 78, 84, 69, 71, 69, 82, 32, 40]).b ++ y16.b)).b ++ (Str.mk [46, 46]).b)).b ++ y20.b)).b ++ (Str.mk [41]).b)), (Str.mk ((Str.mk ((Str.mk ((Str.mk ((Str.mk [73, 78, 84, 69, 71, 69, 82, 32, 40]).b ++ y23.b)).b ++ (Str.mk [46, 46]).b)).b ++ y26.b)).b ++ (Str.mk [44, 32, 46, 46, 46, 41]).b)), (Str.mk ((Str.mk [91, 55, 93, 32]).b ++ (Str.mk ((Str.mk ((Str.mk ((Str.mk ((Str.mk [73, 78, 84, 69, 71, 69, 82, 32, 40]).b ++ y10.b)).b ++ (Str.mk [46, 46]).b)).b ++ y13.b)).b ++ (Str.mk [41]).b)).b)), (Str.mk [66, 79, 79, 76, 69, 65, 78])] : (List Str)) (((UInt64.ofNat (a_other % 18446744073709551616).toNat) % (5 : UInt64)).toNat : Int)) fun y31 => lp (ι := Str × Str × Int) (fun L33 q32 => br (decide (q32.2.2 < (((UInt64.ofNat (a_deep % 18446744073709551616).toNat) % (4 : UInt64)).toNat : Int))) (asr (Nat.ble ((Str.mk [83, 69, 81, 85, 69, 78, 67, 69, 32, 123, 32, 97, 32, 83, 69, 81, 85, 69, 78, 67, 69, 32, 79, 70, 32]).b.length + q32.1.b.length) 4611686018427387904) <| asr (Nat.ble ((Str.mk ((Str.mk [83, 69, 81, 85, 69, 78, 67, 69, 32, 123, 32, 97, 32, 83, 69, 81, 85, 69, 78, 67, 69, 32, 79, 70, 32]).b ++ q32.1.b)).b.length + (Str.mk [44, 32, 46, 46, 46, 32, 125]).b.length) 4611686018427387904) <| asr (Nat.ble ((Str.mk [83, 69, 81, 85, 69, 78, 67, 69, 32, 123, 32, 97, 32, 83, 69, 81, 85, 69, 78, 67, 69, 32, 79, 70, 32]).b.length + q32.2.1.b.length) 4611686018427387904) <| asr (Nat.ble ((Str.mk ((Str.mk [83, 69, 81, 85, 69, 78, 67, 69, 32, 123, 32, 97, 32, 83, 69, 81, 85, 69, 78, 67, 69, 32, 79, 70, 32]).b ++ q32.2.1.b)).b.length + (Str.mk [44, 32, 46, 46, 46, 44, 32, 122, 32, 91, 57, 93, 32, 78, 85, 76, 76, 32, 125]).b.length) 4611686018427387904) <| ck ((q32.2.2 + (1 : Int))) <| L33 ((Str.mk ((Str.mk ((Str.mk [83, 69, 81, 85, 69, 78, 67, 69, 32, 123, 32, 97, 32, 83, 69, 81, 85, 69, 78, 67, 69, 32, 79, 70, 32]).b ++ q32.1.b)).b ++ (Str.mk [44, 32, 46, 46, 46, 32, 125]).b)), (Str.mk ((Str.mk ((Str.mk [83, 69, 81, 85, 69, 78, 67, 69, 32, 123, 32, 97, 32, 83, 69, 81, 85, 69, 78, 67, 69, 32, 79, 70, 32]).b ++ q32.2.1.b)).b ++ (Str.mk [44, 32, 46, 46, 46, 44, 32, 122, 32, 91, 57, 93, 32, 78, 85, 76, 76, 32, 125]).b)), (q32.2.2 + (1 : Int)))) (cal (law21_oneF q32.1 q32.2.1) fun y52 => cal (law21_awakeF ) fun y53 => jp (ι := Bool) (fun J55 => br y53 (J55 (y52.2)) (J55 (false))) (fun q54 => jp (ι := Bool) (fun J58 => br q54 (J58 ((decide (y52.1 = (decide ((((UInt64.ofNat (a_other % 18446744073709551616).toNat) % (5 : UInt64)).toNat : Int) = (0 : Int))))))) (J58 (false))) (fun q57 => some (q57))))) (((Str.mk ((Str.mk ((Str.mk ((Str.mk ((Str.mk [73, 78, 84, 69, 71, 69, 82, 32, 40]).b ++ y10.b)).b ++ (Str.mk [46, 46]).b)).b ++ y13.b)).b ++ (Str.mk [41]).b)), y31, (0 : Int)))
theorem law21_ExtendBoundsF_eq : law21_ExtendBounds = law21_ExtendBoundsF := by
  funext a_low a_high a_other a_deep
  unfold law21_ExtendBounds law21_ExtendBoundsF
  rw [law21_awakeF_eq, law21_oneF_eq]
end Go.Proofs.YtajbipkppngccaaDoor


namespace Go.Proofs.YtajbipkppngccaaDoor
open Go.Sy
set_option maxRecDepth 4000
theorem bounds_0_0 : ((List.range 9).all fun h => (List.range 5).all fun o => yes (law21_ExtendBoundsF 0 h o 0)) = true := by kernel_rfl
theorem bounds_0_1 : ((List.range 9).all fun h => (List.range 5).all fun o => yes (law21_ExtendBoundsF 1 h o 0)) = true := by kernel_rfl
theorem bounds_0_2 : ((List.range 9).all fun h => (List.range 5).all fun o => yes (law21_ExtendBoundsF 2 h o 0)) = true := by kernel_rfl
theorem bounds_0_3 : ((List.range 9).all fun h => (List.range 5).all fun o => yes (law21_ExtendBoundsF 3 h o 0)) = true := by kernel_rfl
theorem bounds_0_4 : ((List.range 9).all fun h => (List.range 5).all fun o => yes (law21_ExtendBoundsF 4 h o 0)) = true := by kernel_rfl
theorem bounds_0_5 : ((List.range 9).all fun h => (List.range 5).all fun o => yes (law21_ExtendBoundsF 5 h o 0)) = true := by kernel_rfl
theorem bounds_0_6 : ((List.range 9).all fun h => (List.range 5).all fun o => yes (law21_ExtendBoundsF 6 h o 0)) = true := by kernel_rfl
theorem bounds_0_7 : ((List.range 9).all fun h => (List.range 5).all fun o => yes (law21_ExtendBoundsF 7 h o 0)) = true := by kernel_rfl
theorem bounds_0_8 : ((List.range 9).all fun h => (List.range 5).all fun o => yes (law21_ExtendBoundsF 8 h o 0)) = true := by kernel_rfl
theorem bounds_0 : ∀ {x : Nat}, x < 9 → ∀ {y : Nat}, y < 9 → ∀ {z : Nat}, z < 5 → yes (law21_ExtendBoundsF x y z 0) = true
  | 0, _, _, h, _, k => all_get (all_get bounds_0_0 h) k
  | 1, _, _, h, _, k => all_get (all_get bounds_0_1 h) k
  | 2, _, _, h, _, k => all_get (all_get bounds_0_2 h) k
  | 3, _, _, h, _, k => all_get (all_get bounds_0_3 h) k
  | 4, _, _, h, _, k => all_get (all_get bounds_0_4 h) k
  | 5, _, _, h, _, k => all_get (all_get bounds_0_5 h) k
  | 6, _, _, h, _, k => all_get (all_get bounds_0_6 h) k
  | 7, _, _, h, _, k => all_get (all_get bounds_0_7 h) k
  | 8, _, _, h, _, k => all_get (all_get bounds_0_8 h) k
theorem bounds_1_0 : ((List.range 9).all fun h => (List.range 5).all fun o => yes (law21_ExtendBoundsF 0 h o 1)) = true := by kernel_rfl
theorem bounds_1_1 : ((List.range 9).all fun h => (List.range 5).all fun o => yes (law21_ExtendBoundsF 1 h o 1)) = true := by kernel_rfl
theorem bounds_1_2 : ((List.range 9).all fun h => (List.range 5).all fun o => yes (law21_ExtendBoundsF 2 h o 1)) = true := by kernel_rfl
theorem bounds_1_3 : ((List.range 9).all fun h => (List.range 5).all fun o => yes (law21_ExtendBoundsF 3 h o 1)) = true := by kernel_rfl
theorem bounds_1_4 : ((List.range 9).all fun h => (List.range 5).all fun o => yes (law21_ExtendBoundsF 4 h o 1)) = true := by kernel_rfl
theorem bounds_1_5 : ((List.range 9).all fun h => (List.range 5).all fun o => yes (law21_ExtendBoundsF 5 h o 1)) = true := by kernel_rfl
theorem bounds_1_6 : ((List.range 9).all fun h => (List.range 5).all fun o => yes (law21_ExtendBoundsF 6 h o 1)) = true := by kernel_rfl
theorem bounds_1_7 : ((List.range 9).all fun h => (List.range 5).all fun o => yes (law21_ExtendBoundsF 7 h o 1)) = true := by kernel_rfl
theorem bounds_1_8 : ((List.range 9).all fun h => (List.range 5).all fun o => yes (law21_ExtendBoundsF 8 h o 1)) = true := by kernel_rfl
theorem bounds_1 : ∀ {x : Nat}, x < 9 → ∀ {y : Nat}, y < 9 → ∀ {z : Nat}, z < 5 → yes (law21_ExtendBoundsF x y z 1) = true
  | 0, _, _, h, _, k => all_get (all_get bounds_1_0 h) k
  | 1, _, _, h, _, k => all_get (all_get bounds_1_1 h) k
  | 2, _, _, h, _, k => all_get (all_get bounds_1_2 h) k
  | 3, _, _, h, _, k => all_get (all_get bounds_1_3 h) k
  | 4, _, _, h, _, k => all_get (all_get bounds_1_4 h) k
  | 5, _, _, h, _, k => all_get (all_get bounds_1_5 h) k
  | 6, _, _, h, _, k => all_get (all_get bounds_1_6 h) k
  | 7, _, _, h, _, k => all_get (all_get bounds_1_7 h) k
  | 8, _, _, h, _, k => all_get (all_get bounds_1_8 h) k
theorem bounds_2_0 : ((List.range 9).all fun h => (List.range 5).all fun o => yes (law21_ExtendBoundsF 0 h o 2)) = true := by kernel_rfl
theorem bounds_2_1 : ((List.range 9).all fun h => (List.range 5).all fun o => yes (law21_ExtendBoundsF 1 h o 2)) = true := by kernel_rfl
theorem bounds_2_2 : ((List.range 9).all fun h => (List.range 5).all fun o => yes (law21_ExtendBoundsF 2 h o 2)) = true := by kernel_rfl
theorem bounds_2_3 : ((List.range 9).all fun h => (List.range 5).all fun o => yes (law21_ExtendBoundsF 3 h o 2)) = true := by kernel_rfl
theorem bounds_2_4 : ((List.range 9).all fun h => (List.range 5).all fun o => yes (law21_ExtendBoundsF 4 h o 2)) = true := by kernel_rfl
theorem bounds_2_5 : ((List.range 9).all fun h => (List.range 5).all fun o => yes (law21_ExtendBoundsF 5 h o 2)) = true := by kernel_rfl
theorem bounds_2_6 : ((List.range 9).all fun h => (List.range 5).all fun o => yes (law21_ExtendBoundsF 6 h o 2)) = true := by kernel_rfl
theorem bounds_2_7 : ((List.range 9).all fun h => (List.range 5).all fun o => yes (law21_ExtendBoundsF 7 h o 2)) = true := by kernel_rfl
theorem bounds_2_8 : ((List.range 9).all fun h => (List.range 5).all fun o => yes (law21_ExtendBoundsF 8 h o 2)) = true := by kernel_rfl
theorem bounds_2 : ∀ {x : Nat}, x < 9 → ∀ {y : Nat}, y < 9 → ∀ {z : Nat}, z < 5 → yes (law21_ExtendBoundsF x y z 2) = true
  | 0, _, _, h, _, k => all_get (all_get bounds_2_0 h) k
  | 1, _, _, h, _, k => all_get (all_get bounds_2_1 h) k
  | 2, _, _, h, _, k => all_get (all_get bounds_2_2 h) k
  | 3, _, _, h, _, k => all_get (all_get bounds_2_3 h) k
  | 4, _, _, h, _, k => all_get (all_get bounds_2_4 h) k
  | 5, _, _, h, _, k => all_get (all_get bounds_2_5 h) k
  | 6, _, _, h, _, k => all_get (all_get bounds_2_6 h) k
  | 7, _, _, h, _, k => all_get (all_get bounds_2_7 h) k
  | 8, _, _, h, _, k => all_get (all_get bounds_2_8 h) k
theorem bounds_3_0 : ((List.range 9).all fun h => (List.range 5).all fun o => yes (law21_ExtendBoundsF 0 h o 3)) = true := by kernel_rfl
theorem bounds_3_1 : ((List.range 9).all fun h => (List.range 5).all fun o => yes (law21_ExtendBoundsF 1 h o 3)) = true := by kernel_rfl
theorem bounds_3_2 : ((List.range 9).all fun h => (List.range 5).all fun o => yes (law21_ExtendBoundsF 2 h o 3)) = true := by kernel_rfl
theorem bounds_3_3 : ((List.range 9).all fun h => (List.range 5).all fun o => yes (law21_ExtendBoundsF 3 h o 3)) = true := by kernel_rfl
theorem bounds_3_4 : ((List.range 9).all fun h => (List.range 5).all fun o => yes (law21_ExtendBoundsF 4 h o 3)) = true := by kernel_rfl
theorem bounds_3_5 : ((List.range 9).all fun h => (List.range 5).all fun o => yes (law21_ExtendBoundsF 5 h o 3)) = true := by kernel_rfl
theorem bounds_3_6 : ((List.range 9).all fun h => (List.range 5).all fun o => yes (law21_ExtendBoundsF 6 h o 3)) = true := by kernel_rfl
theorem bounds_3_7 : ((List.range 9).all fun h => (List.range 5).all fun o => yes (law21_ExtendBoundsF 7 h o 3)) = true := by kernel_rfl
theorem bounds_3_8 : ((List.range 9).all fun h => (List.range 5).all fun o => yes (law21_ExtendBoundsF 8 h o 3)) = true := by kernel_rfl
theorem bounds_3 : ∀ {x : Nat}, x < 9 → ∀ {y : Nat}, y < 9 → ∀ {z : Nat}, z < 5 → yes (law21_ExtendBoundsF x y z 3) = true
  | 0, _, _, h, _, k => all_get (all_get bounds_3_0 h) k
  | 1, _, _, h, _, k => all_get (all_get bounds_3_1 h) k
  | 2, _, _, h, _, k => all_get (all_get bounds_3_2 h) k
  | 3, _, _, h, _, k => all_get (all_get bounds_3_3 h) k
  | 4, _, _, h, _, k => all_get (all_get bounds_3_4 h) k
  | 5, _, _, h, _, k => all_get (all_get bounds_3_5 h) k
  | 6, _, _, h, _, k => all_get (all_get bounds_3_6 h) k
  | 7, _, _, h, _, k => all_get (all_get bounds_3_7 h) k
  | 8, _, _, h, _, k => all_get (all_get bounds_3_8 h) k
theorem bounds_true (l h o d : Int) : law21_ExtendBounds l h o d = some true := by
  rw [law21_ExtendBoundsF_eq]
  obtain ⟨x, hx, h1⟩ := red l 9 (by decide)
  obtain ⟨y, hy, h2⟩ := red h 9 (by decide)
  obtain ⟨z, hz, h3⟩ := red o 5 (by decide)
  obtain ⟨u, hu, h4⟩ := red d 4 (by decide)
  have e : law21_ExtendBoundsF l h o d = law21_ExtendBoundsF x y z u := by
    unfold law21_ExtendBoundsF
    unfold wd at h1 h2 h3 h4
    rw [h1, h2, h3, h4]
  rw [e]
  have hu4 : u < 4 := hu
  match u, hu4 with
  | 0, _ => exact of_yes (bounds_0 hx hy hz)
  | 1, _ => exact of_yes (bounds_1 hx hy hz)
  | 2, _ => exact of_yes (bounds_2 hx hy hz)
  | 3, _ => exact of_yes (bounds_3 hx hy hz)
end Go.Proofs.YtajbipkppngccaaDoor


namespace Go.Proofs.YtajbipkppngccaaDoor
open Go.Sy Go.Shelf Go.Lib Go.ChangeShapes Go.WideShapes Go.ChangeAt Go.RowKit

theorem extendBounds_laid : Rows.extendBoundsRow.laid = laidTwo := by kernel_rfl
theorem extendBounds_ctr (a0 : Int) (a1 : Int) (a2 : Int) (a3 : Int) : Ctr Tryd.prog 7 [isv a0, isv a1, isv a2, isv a3] [] (pureP true) := law21_ExtendBounds_w (bounds_true a0 a1 a2 a3)

theorem extendBounds_witness (os : Os) {H : Type} (enc : TypeId × Value → H) :
    (OpenSpec.ofChange Rows.extendBoundsSpec).preRow enc Tryd.prog Tryd.f7 [] false laidTwo ((laidWorld os).forCall (fun _ _ => 0) ⟨#[], #[.int .i64 0, .int .i64 0, .int .i64 0, .int .i64 0], []⟩).memory #[.int .i64 0, .int .i64 0, .int .i64 0, .int .i64 0] := by
  have hw : (DataW.whole enc Tryd.prog ((laidWorld os).forCall (fun _ _ => 0) ⟨#[], #[.int .i64 0, .int .i64 0, .int .i64 0, .int .i64 0], []⟩).memory Tryd.f7.params.toList (OpenSpec.ofChange Rows.extendBoundsSpec).vars false #[Value.int .i64 0, .int .i64 0, .int .i64 0, .int .i64 0].toList 8).map (fun x => (x.1, x.2.1)) =
      some ([.lit (.int .i64 0), .lit (.int .i64 0), .lit (.int .i64 0), .lit (.int .i64 0)], []) := by kernel_rfl
  obtain ⟨⟨x1, x2, x3⟩, hx, hx1⟩ := Option.map_eq_some_iff.1 hw
  simp only [Prod.mk.injEq] at hx1
  obtain ⟨rfl, rfl⟩ := hx1
  exact OpenSpec.preRow_of_cond 8 hx (by kernel_rfl) (fun k hk => by cases hk) (by kernel_rfl) (laid_met os _)

set_option maxRecDepth 100000 in
theorem extendBounds_lifted (os : Os) (started : os.Started) (H : Type) (enc : TypeId × Value → H) (F : Stop.Interp) :
    ReturnsInHanded {} Tryd.checked os 7 .any ((OpenSpec.ofChange Rows.extendBoundsSpec).preRow enc Tryd.prog Tryd.f7 [] false laidTwo) (((OpenSpec.ofChange Rows.extendBoundsSpec).at F).post enc Tryd.prog Tryd.f7 false true false false) :=
  law_laid (C := Tryd.checked) (B := 4) own started (by kernel_rfl) Tryd.func7
    (witness_row_atRef (enc := enc) (C := Tryd.checked) false (laidWorld os) _ rfl (by kernel_rfl) (by kernel_rfl) (by kernel_rfl) (extendBounds_witness os enc))
    laidOut (by kernel_rfl) rfl rfl Tryd.underlying4
    (fun ds h => by
      match ds, h with
      | [_, _, _, _], _ => rfl)
    tabs_laid
    (fun W vs ds p hT ht hw hk => run4 (t1 := 3) (t2 := 3) (t3 := 3) (t4 := 3) hT extendBounds_ctr (Opn.int Tryd.underlying3) (Opn.int Tryd.underlying3) (Opn.int Tryd.underlying3) (Opn.int Tryd.underlying3) ht hw hk)

theorem extendBounds_said : Rows.ExtendBoundsSaid :=
  OpenClaim.holds_of_cond 7 Tryd.f7 rfl rfl rfl rfl rfl rfl rfl ⟨rfl, rfl, rfl, rfl, rfl⟩ rfl rfl rfl rfl rfl (by kernel_rfl) Tryd.func7 (by kernel_rfl)
    (of_decide_eq_true (by kernel_rfl)) (by unfold Func.isWrapper; rw [if_neg (of_decide_eq_false (by kernel_rfl))]; exact ⟨rfl, rfl⟩)
    (fun os started H enc _ F0 => by rw [OpenClaim.pre_eq_preRow, extendBounds_laid]; exact extendBounds_lifted os started H enc F0)

theorem extendBounds_card : Rows.ExtendBoundsCardSaid :=
  Claim7.holds_tied_plain_at .later [] [.data, .pinned] true (true, "ee422cd9fba7c25b63a55046cc4ec7c324434a13031696ab5458ab53e62a39c5") false
    extendBounds_said (fun _ h => by cases h) (by kernel_rfl) (fun _ h => by cases h) extendBounds_row_tie rfl ⟨rfl, rfl⟩ (by kernel_rfl) rfl
    (fun f fn hf hfn => by
      obtain rfl : f = 7 := Option.some.inj ((show Tryd.prog.funcNamed Rows.extendBoundsRow.func = some 7 by kernel_rfl).symm.trans hf) |>.symm
      obtain rfl : fn = Tryd.f7 := (Option.some.inj (Tryd.func7.symm.trans hfn)).symm
      exact ⟨by kernel_rfl, fun j t ht => by
        have e : (Tryd.f7.params.toList.all fun t => !Tryd.prog.wantsStandIn t) = true := by kernel_rfl
        have := List.all_eq_true.1 e t (List.mem_of_getElem? (i := j) (by simpa using ht))
        exact (by simpa using this : Tryd.prog.wantsStandIn t = false)⟩)
    (by kernel_rfl)
end Go.Proofs.YtajbipkppngccaaDoor


