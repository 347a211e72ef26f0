/- ExtendItems: for every value of its arguments the law returns true, and each argument reads behind the call as it read before; what the tables of utf8 hold is tied to the program's text. No condition. -/
import Derived.Test.YtajbipkppngccaaDoorExA
import Derived.Test.YtajbipkppngccaaDoorExB
import Derived.Test.YtajbipkppngccaaDoorExC
import Derived.Test.YtajbipkppngccaaDoorExD
import Derived.Test.YtajbipkppngccaaDoorExE
import Derived.Test.YtajbipkppngccaaDoorExF
import Derived.Test.YtajbipkppngccaaDoorRows
import Derived.Test.YtajbipkppngccaaDoorTie
import Derived.Test.YtajbipkppngccaaDoorCards
import Derived.SevenTiedAt
set_option linter.unusedVariables false
set_option linter.unusedSimpArgs false

namespace Go.Proofs.YtajbipkppngccaaDoor
open Go.Sy
set_option maxRecDepth 4000
def law21_ExtendItems (a_n_ : Int) (a_added : Int) (a_turned : Int) (a_dots : Bool) : Option (Bool) :=
  asr (!decide ((6 : UInt64) = 0)) <| ck ((((UInt64.ofNat (a_n_ % 18446744073709551616).toNat) % (6 : UInt64)).toNat : Int)) <| ck (((1 : Int) + (((UInt64.ofNat (a_n_ % 18446744073709551616).toNat) % (6 : UInt64)).toNat : Int))) <| asr (!decide ((4 : UInt64) = 0)) <| ck ((((UInt64.ofNat (a_added % 18446744073709551616).toNat) % (4 : UInt64)).toNat : Int)) <| ck ((((1 : Int) + (((UInt64.ofNat (a_n_ % 18446744073709551616).toNat) % (6 : UInt64)).toNat : Int)) + (3 : Int))) <| asr (!decide ((UInt64.ofNat ((((1 : Int) + (((UInt64.ofNat (a_n_ % 18446744073709551616).toNat) % (6 : UInt64)).toNat : Int)) + (3 : Int)) % 18446744073709551616).toNat) = 0)) <| ck ((((UInt64.ofNat (a_turned % 18446744073709551616).toNat) % (UInt64.ofNat ((((1 : Int) + (((UInt64.ofNat (a_n_ % 18446744073709551616).toNat) % (6 : UInt64)).toNat : Int)) + (3 : Int)) % 18446744073709551616).toNat)).toNat : Int)) <| lp (ι := Str × Str × Int) (fun L10 q9 => br (decide (q9.2.2 < ((1 : Int) + (((UInt64.ofNat (a_n_ % 18446744073709551616).toNat) % (6 : UInt64)).toNat : Int)))) (jp (ι := Str × Str) (fun J77 => jp (ι := Str × Str) (fun J79 => br (decide ((0 : Int) < q9.2.2)) (asr (Nat.ble (q9.1.b.length + (Str.mk [44, 32]).b.length) 4611686018427387904) <| asr (Nat.ble (q9.2.1.b.length + (Str.mk [44, 32]).b.length) 4611686018427387904) <| J79 ((Str.mk (q9.1.b ++ (Str.mk [44, 32]).b)), (Str.mk (q9.2.1.b ++ (Str.mk [44, 32]).b)))) (J79 (q9.1, q9.2.1))) (fun q78 => asr (Nat.ble (q78.1.b.length + (Str.mk [101]).b.length) 4611686018427387904) <| cal (h_Digits fuel (UInt64.ofNat (q9.2.2 % 18446744073709551616).toNat)) fun y83 => asr (Nat.ble ((Str.mk (q78.1.b ++ (Str.mk [101]).b)).b.length + y83.b.length) 4611686018427387904) <| br (decide (q9.2.2 = (((UInt64.ofNat (a_turned % 18446744073709551616).toNat) % (UInt64.ofNat ((((1 : Int) + (((UInt64.ofNat (a_n_ % 18446744073709551616).toNat) % (6 : UInt64)).toNat : Int)) + (3 : Int)) % 18446744073709551616).toNat)).toNat : Int))) (asr (Nat.ble (q78.2.b.length + (Str.mk [111, 116, 104, 101, 114]).b.length) 4611686018427387904) <| J77 ((Str.mk ((Str.mk (q78.1.b ++ (Str.mk [101]).b)).b ++ y83.b)), (Str.mk (q78.2.b ++ (Str.mk [111, 116, 104, 101, 114]).b)))) (asr (Nat.ble (q78.2.b.length + (Str.mk [101]).b.length) 4611686018427387904) <| cal (h_Digits fuel (UInt64.ofNat (q9.2.2 % 18446744073709551616).toNat)) fun y87 => asr (Nat.ble ((Str.mk (q78.2.b ++ (Str.mk [101]).b)).b.length + y87.b.length) 4611686018427387904) <| J77 ((Str.mk ((Str.mk (q78.1.b ++ (Str.mk [101]).b)).b ++ y83.b)), (Str.mk ((Str.mk (q78.2.b ++ (Str.mk [101]).b)).b ++ y87.b)))))) (fun q76 => ck ((q9.2.2 + (1 : Int))) <| L10 (q76.1, q76.2, (q9.2.2 + (1 : Int))))) (jp (ι := Str × Str) (fun J91 => br a_dots (asr (Nat.ble (q9.1.b.length + (Str.mk [44, 32, 46, 46, 46]).b.length) 4611686018427387904) <| asr (Nat.ble (q9.2.1.b.length + (Str.mk [44, 32, 46, 46, 46]).b.length) 4611686018427387904) <| J91 ((Str.mk (q9.1.b ++ (Str.mk [44, 32, 46, 46, 46]).b)), (Str.mk (q9.2.1.b ++ (Str.mk [44, 32, 46, 46, 46]).b)))) (J91 (q9.1, q9.2.1))) (fun q90 => lp (ι := Str × Int) (fun L95 q94 => br (decide (q94.2 < (((UInt64.ofNat (a_added % 18446744073709551616).toNat) % (4 : UInt64)).toNat : Int))) (asr (Nat.ble (q94.1.b.length + (Str.mk [44, 32, 120]).b.length) 4611686018427387904) <| cal (h_Digits fuel (UInt64.ofNat (q94.2 % 18446744073709551616).toNat)) fun y119 => asr (Nat.ble ((Str.mk (q94.1.b ++ (Str.mk [44, 32, 120]).b)).b.length + y119.b.length) 4611686018427387904) <| ck ((q94.2 + (1 : Int))) <| L95 ((Str.mk ((Str.mk (q94.1.b ++ (Str.mk [44, 32, 120]).b)).b ++ y119.b)), (q94.2 + (1 : Int)))) (asr (Nat.ble ((Str.mk [69, 78, 85, 77, 69, 82, 65, 84, 69, 68, 32, 123, 32]).b.length + q90.1.b.length) 4611686018427387904) <| asr (Nat.ble ((Str.mk ((Str.mk [69, 78, 85, 77, 69, 82, 65, 84, 69, 68, 32, 123, 32]).b ++ q90.1.b)).b.length + (Str.mk [32, 125]).b.length) 4611686018427387904) <| asr (Nat.ble ((Str.mk [69, 78, 85, 77, 69, 82, 65, 84, 69, 68, 32, 123, 32]).b.length + q94.1.b.length) 4611686018427387904) <| asr (Nat.ble ((Str.mk ((Str.mk [69, 78, 85, 77, 69, 82, 65, 84, 69, 68, 32, 123, 32]).b ++ q94.1.b)).b.length + (Str.mk [32, 125]).b.length) 4611686018427387904) <| cal (law21_one (Str.mk ((Str.mk ((Str.mk [69, 78, 85, 77, 69, 82, 65, 84, 69, 68, 32, 123, 32]).b ++ q90.1.b)).b ++ (Str.mk [32, 125]).b)) (Str.mk ((Str.mk ((Str.mk [69, 78, 85, 77, 69, 82, 65, 84, 69, 68, 32, 123, 32]).b ++ q94.1.b)).b ++ (Str.mk [32, 125]).b))) fun y126 => cal (law21_awake ) fun y127 => jp (ι := Bool) (fun J129 => br y127 (J129 (y126.2)) (J129 (false))) (fun q128 => jp (ι := Bool) (fun J132 => br q128 (jp (ι := Bool) (fun J135 => br (decide (((1 : Int) + (((UInt64.ofNat (a_n_ % 18446744073709551616).toNat) % (6 : UInt64)).toNat : Int)) ≤ (((UInt64.ofNat (a_turned % 18446744073709551616).toNat) % (UInt64.ofNat ((((1 : Int) + (((UInt64.ofNat (a_n_ % 18446744073709551616).toNat) % (6 : UInt64)).toNat : Int)) + (3 : Int)) % 18446744073709551616).toNat)).toNat : Int))) (jp (ι := Bool) (fun J138 => br a_dots (J138 (true)) (J138 ((decide ((((UInt64.ofNat (a_added % 18446744073709551616).toNat) % (4 : UInt64)).toNat : Int) = (0 : Int)))))) (fun q137 => J135 (q137))) (J135 (false))) (fun q134 => J132 ((decide (y126.1 = q134))))) (J132 (false))) (fun q131 => some (q131))))) ((q90.2, (0 : Int)))))) (((Str.mk []), (Str.mk []), (0 : Int)))
end Go.Proofs.YtajbipkppngccaaDoor


namespace Go.Proofs.YtajbipkppngccaaDoor
open Go.Sy
set_option maxRecDepth 4000
end Go.Proofs.YtajbipkppngccaaDoor


namespace Go.Proofs.YtajbipkppngccaaDoor
open Go.Sy
set_option maxRecDepth 4000
theorem law21_ExtendItems_w : ∀ {a_n_ : Int} {a_added : Int} {a_turned : Int} {a_dots : Bool} {r : Bool}, law21_ExtendItems a_n_ a_added a_turned a_dots = some r → Ctr Tryd.prog 6 [isv (a_n_), isv (a_added), isv (a_turned), isv (a_dots)] [] (fun R H => R = oneOf [isv (r)] ∧ H = []) := by
 intro a_n_ a_added a_turned a_dots r h
 unfold law21_ExtendItems at h
 refine spec_intro Tryd.func6 rfl (by decide +kernel) (by rfl) fun w0 S0 hT => ?_
 refine wsr ?_
 refine oV (v_assign rfl) ?_
 refine rnf ?_
 refine wsr ?_
 refine oV (v_move rfl) ?_
 refine oV (v_toU Tryd.underlying3 Tryd.underlying37 rfl) ?_
 refine asr_inv h fun q1 h => ?_
 refine oV (v_rem64 rfl rfl q1) ?_
 refine ck_inv h fun q2 h => ?_
 refine oV (v_u64i Tryd.underlying37 Tryd.underlying3 rfl q2) ?_
 refine ck_inv h fun q3 h => ?_
 refine oV (v_add rfl rfl q3) ?_
 refine oV (v_move rfl) ?_
 refine oV (v_toU Tryd.underlying3 Tryd.underlying37 rfl) ?_
 refine asr_inv h fun q4 h => ?_
 refine oV (v_rem64 rfl rfl q4) ?_
 refine ck_inv h fun q5 h => ?_
 refine oV (v_u64i Tryd.underlying37 Tryd.underlying3 rfl q5) ?_
 refine oV (v_assign rfl) ?_
 refine oV (v_assign rfl) ?_
 refine rnf ?_
 refine wsr ?_
 refine oV (v_move rfl) ?_
 refine oV (v_toU Tryd.underlying3 Tryd.underlying37 rfl) ?_
 refine oV (v_move rfl) ?_
 refine ck_inv h fun q6 h => ?_
 refine oV (v_add rfl rfl q6) ?_
 refine oV (v_toU Tryd.underlying3 Tryd.underlying37 rfl) ?_
 refine asr_inv h fun q7 h => ?_
 refine oV (v_rem64 rfl rfl q7) ?_
 refine ck_inv h fun q8 h => ?_
 refine oV (v_u64i Tryd.underlying37 Tryd.underlying3 rfl q8) ?_
 refine oV (v_assign rfl) ?_
 refine rnf ?_
 refine wsr ?_
 refine oV (v_assign rfl) ?_
 refine oV (v_assign rfl) ?_
 refine rnf ?_
 refine w_seq ?_
 refine wsr ?_
 refine oV (v_assign rfl) ?_
 refine rnf ?_
 refine w_block ?_
 refine w_lp (ι := Str × Str × Int) (γ := Unit) (fun q9 g9 => [(9, isv (q9.1)), (10, isv (q9.2.1)), (11, isv (q9.2.2))]) (fun q9 g9 => []) h () (mod_cons (j := 9) rfl (fun _ _ h => h) (mod_cons (j := 10) rfl (fun _ _ h => h) (mod_cons (j := 11) rfl (fun _ _ h => h) mod_nil))) .nil (fun L10 q9 g9 Q141 h hL10 eL10 rL10 => ?_)
 refine w_seq ?_
 refine wsr ?_
 refine oV (v_move rfl) ?_
 refine oV (v_move rfl) ?_
 refine oV (v_lss rfl rfl) ?_
 refine rnf ?_
 refine w_condM h rfl (fun _ h => ?_) (fun _ h => ?_)
 ·
  refine wkf ?_
  refine w_seq ?_
  refine w_J (ι := Str × Str) (γ := Unit) (fun q76 g76 => [(9, isv (q76.1)), (10, isv (q76.2))]) (fun q76 g76 => []) .nil h (fun q76 g76 h => ?_) (fun J77 h hJ77 => ?_)
  ·
   refine w_region ?_
   refine oV (v_move rfl) ?_
   refine ck_inv h fun q89 h => ?_
   refine oV (v_add rfl rfl q89) ?_
   refine oV (v_assign rfl) ?_
   refine rl_nil ?_
   exact hL10 _ () h _ (join_imp 11 rfl rfl (mod_cons (j := 9) rfl (fun _ _ h => h) (mod_cons (j := 10) rfl (fun _ _ h => h) (mod_cons (j := 11) rfl (fun _ _ h => h) mod_nil))) .nil)
  ·
   refine w_block ?_
   refine w_seq ?_
   refine wsr ?_
   refine oV (v_move rfl) ?_
   refine oV (v_gtr rfl rfl) ?_
   refine rnf ?_
   refine w_J (ι := Str × Str) (γ := Unit) (fun q78 g78 => [(9, isv (q78.1)), (10, isv (q78.2))]) (fun q78 g78 => []) .nil h (fun q78 g78 h => ?_) (fun J79 h hJ79 => ?_)
   ·
    refine wsr ?_
    refine oV (v_move rfl) ?_
    refine asr_inv h fun q82 h => ?_
    refine oV (v_cat rfl rfl q82) ?_
    refine oV (v_move rfl) ?_
    refine oV (v_toU Tryd.underlying3 Tryd.underlying39 rfl) ?_
    refine cal_inv h fun y83 hy83 h => ?_
    refine oT (t_call (h_Digits_w fuel hy83) hT (.same rfl .nil) .nil (fun R H' hR => ?_))
    obtain ⟨rfl, rfl⟩ := hR
    refine asr_inv h fun q84 h => ?_
    refine oV (v_cat rfl rfl q84) ?_
    refine oV (v_assign rfl) ?_
    refine rnf ?_
    refine wsr ?_
    refine oV (v_move rfl) ?_
    refine oV (v_move rfl) ?_
    refine oV (v_eql rfl rfl) ?_
    refine rnf ?_
    refine w_condM h rfl (fun _ h => ?_) (fun _ h => ?_)
    ·
     refine w_region ?_
     refine oV (v_move rfl) ?_
     refine asr_inv h fun q85 h => ?_
     refine oV (v_cat rfl rfl q85) ?_
     refine oV (v_assign rfl) ?_
     refine rl_nil ?_
     refine fin_block ?_
     exact hJ77 _ () h _ (join_imp 17 rfl rfl (mod_cons (j := 9) rfl (fun _ _ h => h) (mod_cons (j := 10) rfl (fun _ _ h => h) mod_nil)) .nil)
    ·
     refine w_region ?_
     refine oV (v_move rfl) ?_
     refine asr_inv h fun q86 h => ?_
     refine oV (v_cat rfl rfl q86) ?_
     refine oV (v_move rfl) ?_
     refine oV (v_toU Tryd.underlying3 Tryd.underlying39 rfl) ?_
     refine cal_inv h fun y87 hy87 h => ?_
     refine oT (t_call (h_Digits_w fuel hy87) hT (.same rfl .nil) .nil (fun R H' hR => ?_))
     obtain ⟨rfl, rfl⟩ := hR
     refine asr_inv h fun q88 h => ?_
     refine oV (v_cat rfl rfl q88) ?_
     refine oV (v_assign rfl) ?_
     refine rl_nil ?_
     refine fin_block ?_
     exact hJ77 _ () h _ (join_imp 21 rfl rfl (mod_cons (j := 9) rfl (fun _ _ h => h) (mod_cons (j := 10) rfl (fun _ _ h => h) mod_nil)) .nil)
   ·
    refine w_condM h rfl (fun _ h => ?_) (fun _ h => ?_)
    ·
     refine w_region ?_
     refine oV (v_move rfl) ?_
     refine asr_inv h fun q80 h => ?_
     refine oV (v_cat rfl rfl q80) ?_
     refine oV (v_move rfl) ?_
     refine asr_inv h fun q81 h => ?_
     refine oV (v_cat rfl rfl q81) ?_
     refine oV (v_assign rfl) ?_
     refine oV (v_assign rfl) ?_
     refine rl_nil ?_
     exact hJ79 _ () h _ (join_imp 6 rfl rfl (mod_cons (j := 9) rfl (fun _ _ h => h) (mod_cons (j := 10) rfl (fun _ _ h => h) mod_nil)) .nil)
    ·
     refine w_skip ?_
     exact hJ79 _ () h _ (join_imp 0 rfl rfl (mod_cons (j := 9) rfl (fun _ _ h => h) (mod_cons (j := 10) rfl (fun _ _ h => h) mod_nil)) .nil)
 ·
  refine w_exit ?_
  refine exi_nxt ?_
  refine eL10 _ _ ?_
  refine exi_block ?_
  refine fin_nxt ?_
  refine w_seq ?_
  refine wsr ?_
  refine oV (v_move rfl) ?_
  refine rnf ?_
  refine w_J (ι := Str × Str) (γ := Unit) (fun q90 g90 => [(9, isv (q90.1)), (10, isv (q90.2))]) (fun q90 g90 => []) .nil h (fun q90 g90 h => ?_) (fun J91 h hJ91 => ?_)
  ·
   refine w_seq ?_
   refine wsr ?_
   refine oV (v_assign rfl) ?_
   refine rnf ?_
   refine w_block ?_
   refine w_lp (ι := Str × Int) (γ := Unit) (fun q94 g94 => [(10, isv (q94.1)), (12, isv (q94.2))]) (fun q94 g94 => []) h () (mod_cons (j := 10) rfl (fun _ _ h => h) (mod_cons (j := 12) rfl (fun _ _ h => h) mod_nil)) .nil (fun L95 q94 g94 Q140 h hL95 eL95 rL95 => ?_)
   refine w_seq ?_
   refine wsr ?_
   refine oV (v_move rfl) ?_
   refine oV (v_move rfl) ?_
   refine oV (v_lss rfl rfl) ?_
   refine rnf ?_
   refine w_condM h rfl (fun _ h => ?_) (fun _ h => ?_)
   ·
    refine wkf ?_
    refine w_seq ?_
    refine w_block ?_
    refine w_region ?_
    refine oV (v_move rfl) ?_
    refine asr_inv h fun q118 h => ?_
    refine oV (v_cat rfl rfl q118) ?_
    refine oV (v_move rfl) ?_
    refine oV (v_toU Tryd.underlying3 Tryd.underlying39 rfl) ?_
    refine cal_inv h fun y119 hy119 h => ?_
    refine oT (t_call (h_Digits_w fuel hy119) hT (.same rfl .nil) .nil (fun R H' hR => ?_))
    obtain ⟨rfl, rfl⟩ := hR
    refine asr_inv h fun q120 h => ?_
    refine oV (v_cat rfl rfl q120) ?_
    refine oV (v_assign rfl) ?_
    refine rl_nil ?_
    refine fin_block ?_
    refine fin_nxt ?_
    refine w_region ?_
    refine oV (v_move rfl) ?_
    refine ck_inv h fun q121 h => ?_
    refine oV (v_add rfl rfl q121) ?_
    refine oV (v_assign rfl) ?_
    refine rl_nil ?_
    exact hL95 _ () h _ (join_imp 15 rfl rfl (mod_cons (j := 10) rfl (fun _ _ h => h) (mod_cons (j := 12) rfl (fun _ _ h => h) mod_nil)) .nil)
   ·
    refine w_exit ?_
    refine exi_nxt ?_
    refine eL95 _ _ ?_
    refine exi_block ?_
    refine fin_nxt ?_
    refine wsr ?_
    refine oV (v_move rfl) ?_
    refine asr_inv h fun q122 h => ?_
    refine oV (v_cat rfl rfl q122) ?_
    refine asr_inv h fun q123 h => ?_
    refine oV (v_cat rfl rfl q123) ?_
    refine oV (v_move rfl) ?_
    refine asr_inv h fun q124 h => ?_
    refine oV (v_cat rfl rfl q124) ?_
    refine asr_inv h fun q125 h => ?_
    refine oV (v_cat rfl rfl q125) ?_
    refine cal_inv h fun y126 hy126 h => ?_
    refine oT (t_call (law21_one_w hy126) hT (.same rfl (.same rfl .nil)) .nil (fun R H' hR => ?_))
    obtain ⟨rfl, rfl⟩ := hR
    refine oV (v_move rfl) ?_
    refine oV (v_extract rfl rfl) ?_
    refine oV (v_extract rfl rfl) ?_
    refine oV (v_assign rfl) ?_
    refine oV (v_assign rfl) ?_
    refine rnf ?_
    refine wsr ?_
    refine cal_inv h fun y127 hy127 h => ?_
    refine oT (t_call (law21_awake_w hy127) hT .nil .nil (fun R H' hR => ?_))
    obtain ⟨rfl, rfl⟩ := hR
    refine oV (v_move rfl) ?_
    refine rl_j (ι := Bool) (γ := Unit) (fun q128 g128 => [(88, isv (q128))]) (fun q128 g128 => []) .nil h 2 rfl (fun q128 g128 h => ?_) (fun J129 h hJ129 => ?_)
    ·
     refine oV (v_move rfl) ?_
     refine rl_j (ι := Bool) (γ := Unit) (fun q131 g131 => [(102, isv (q131))]) (fun q131 g131 => []) .nil h 13 rfl (fun q131 g131 h => ?_) (fun J132 h hJ132 => ?_)
     ·
      refine oV (v_assign rfl) ?_
      refine rnf ?_
      refine w_ret ?_
      refine ret_post (.tmp rfl .nil) .nil ?_
      obtain rfl := Option.some.inj h
      exact ⟨rfl, rfl⟩
     ·
      refine rl_condM (j := 89) h rfl (fun g133 h => ?_) (fun g133 h => ?_)
      ·
       refine op_take rfl rfl (dj := 89) rfl g133 (OpV.t (v_move rfl) ?_)
       refine op_take rfl rfl (dj := 89) rfl g133 (OpV.t (v_move rfl) ?_)
       refine op_take rfl rfl (dj := 89) rfl g133 (OpV.t (v_move rfl) ?_)
       refine op_take rfl rfl (dj := 89) rfl g133 (OpV.t (v_geq rfl rfl) ?_)
       refine op_take rfl rfl (dj := 89) rfl g133 (OpV.t (v_move rfl) ?_)
       refine rl_j (ι := Bool) (γ := Unit) (fun q134 g134 => [(100, isv (q134))]) (fun q134 g134 => []) .nil h 6 rfl (fun q134 g134 h => ?_) (fun J135 h hJ135 => ?_)
       ·
        refine op_take rfl rfl (dj := 89) rfl g133 (OpV.t (v_eqA eq4 rfl rfl) ?_)
        refine oV (v_pick_t rfl g133 rfl) ?_
        exact hJ132 _ () h _ (join_imp 8 rfl rfl (mod_cons (j := 102) rfl (fun _ _ h => h) mod_nil) .nil)
       ·
        refine rl_condM (j := 94) h rfl (fun g136 h => ?_) (fun g136 h => ?_)
        ·
         refine op_take rfl rfl (dj := 94) rfl g136 (OpV.t (v_move rfl) ?_)
         refine op_take rfl rfl (dj := 94) rfl g136 (OpV.t (v_move rfl) ?_)
         refine rl_j (ι := Bool) (γ := Unit) (fun q137 g137 => [(99, isv (q137))]) (fun q137 g137 => []) .nil h 3 rfl (fun q137 g137 h => ?_) (fun J138 h hJ138 => ?_)
         ·
          refine op_take rfl rfl (dj := 89) rfl g133 (OpV.t (v_pick_t rfl g136 rfl) ?_)
          exact hJ135 _ () h _ (join_imp 4 rfl rfl (mod_cons (j := 100) rfl (fun _ _ h => h) mod_nil) .nil)
         ·
          refine rl_condM (j := 96) h rfl (fun g139 h => ?_) (fun g139 h => ?_)
          ·
           refine op_pass rfl (dj := 96) rfl g139 ?_
           refine op_pass rfl (dj := 96) rfl g139 ?_
           refine op_take rfl rfl (dj := 94) rfl g136 (OpV.t (v_pick_t rfl g139 rfl) ?_)
           exact hJ138 _ () h _ (join_imp 3 rfl rfl (mod_cons (j := 99) rfl (fun _ _ h => h) mod_nil) .nil)
          ·
           refine op_take rfl rfl (dj := 96) rfl g139 (OpV.t (v_move rfl) ?_)
           refine op_take rfl rfl (dj := 96) rfl g139 (OpV.t (v_eql rfl rfl) ?_)
           refine op_take rfl rfl (dj := 94) rfl g136 (OpV.t (v_pick_f rfl g139 rfl) ?_)
           exact hJ138 _ () h _ (join_imp 3 rfl rfl (mod_cons (j := 99) rfl (fun _ _ h => h) mod_nil) .nil)
        ·
         refine op_pass rfl (dj := 94) rfl g136 ?_
         refine op_pass rfl (dj := 94) rfl g136 ?_
         refine op_passU rfl (dj := 96) rfl ?_
         refine op_passU rfl (dj := 96) rfl ?_
         refine op_pass rfl (dj := 94) rfl g136 ?_
         refine op_take rfl rfl (dj := 89) rfl g133 (OpV.t (v_pick_f rfl g136 rfl) ?_)
         exact hJ135 _ () h _ (join_imp 6 rfl rfl (mod_cons (j := 100) rfl (fun _ _ h => h) mod_nil) .nil)
      ·
       refine op_pass rfl (dj := 89) rfl g133 ?_
       refine op_pass rfl (dj := 89) rfl g133 ?_
       refine op_pass rfl (dj := 89) rfl g133 ?_
       refine op_pass rfl (dj := 89) rfl g133 ?_
       refine op_pass rfl (dj := 89) rfl g133 ?_
       refine op_passU rfl (dj := 94) rfl ?_
       refine op_passU rfl (dj := 94) rfl ?_
       refine op_passU rfl (dj := 96) rfl ?_
       refine op_passU rfl (dj := 96) rfl ?_
       refine op_passU rfl (dj := 94) rfl ?_
       refine op_pass rfl (dj := 89) rfl g133 ?_
       refine op_pass rfl (dj := 89) rfl g133 ?_
       refine oV (v_pick_f rfl g133 rfl) ?_
       exact hJ132 _ () h _ (join_imp 13 rfl rfl (mod_cons (j := 102) rfl (fun _ _ h => h) mod_nil) .nil)
    ·
     refine rl_condM (j := 86) h rfl (fun g130 h => ?_) (fun g130 h => ?_)
     ·
      refine op_take rfl rfl (dj := 86) rfl g130 (OpV.t (v_move rfl) ?_)
      refine oV (v_pick_t rfl g130 rfl) ?_
      exact hJ129 _ () h _ (join_imp 2 rfl rfl (mod_cons (j := 88) rfl (fun _ _ h => h) mod_nil) .nil)
     ·
      refine op_pass rfl (dj := 86) rfl g130 ?_
      refine oV (v_pick_f rfl g130 rfl) ?_
      exact hJ129 _ () h _ (join_imp 2 rfl rfl (mod_cons (j := 88) rfl (fun _ _ h => h) mod_nil) .nil)
  ·
   refine w_condM h rfl (fun _ h => ?_) (fun _ h => ?_)
   ·
    refine w_region ?_
    refine oV (v_move rfl) ?_
    refine asr_inv h fun q92 h => ?_
    refine oV (v_cat rfl rfl q92) ?_
    refine oV (v_move rfl) ?_
    refine asr_inv h fun q93 h => ?_
    refine oV (v_cat rfl rfl q93) ?_
    refine oV (v_assign rfl) ?_
    refine oV (v_assign rfl) ?_
    refine rl_nil ?_
    exact hJ91 _ () h _ (join_imp 6 rfl rfl (mod_cons (j := 9) rfl (fun _ _ h => h) (mod_cons (j := 10) rfl (fun _ _ h => h) mod_nil)) .nil)
   ·
    refine w_skip ?_
    exact hJ91 _ () h _ (join_imp 0 rfl rfl (mod_cons (j := 9) rfl (fun _ _ h => h) (mod_cons (j := 10) rfl (fun _ _ h => h) mod_nil)) .nil)

end Go.Proofs.YtajbipkppngccaaDoor


namespace Go.Proofs.YtajbipkppngccaaDoor
open Go.Sy
set_option maxRecDepth 4000
def law21_ExtendItemsF (a_n_ : Int) (a_added : Int) (a_turned : Int) (a_dots : Bool) : Option (Bool) :=
  asr (!decide ((6 : UInt64) = 0)) <| ck ((((UInt64.ofNat (a_n_ % 18446744073709551616).toNat) % (6 : UInt64)).toNat : Int)) <| ck (((1 : Int) + (((UInt64.ofNat (a_n_ % 18446744073709551616).toNat) % (6 : UInt64)).toNat : Int))) <| asr (!decide ((4 : UInt64) = 0)) <| ck ((((UInt64.ofNat (a_added % 18446744073709551616).toNat) % (4 : UInt64)).toNat : Int)) <| ck ((((1 : Int) + (((UInt64.ofNat (a_n_ % 18446744073709551616).toNat) % (6 : UInt64)).toNat : Int)) + (3 : Int))) <| asr (!decide ((UInt64.ofNat ((((1 : Int) + (((UInt64.ofNat (a_n_ % 18446744073709551616).toNat) % (6 : UInt64)).toNat : Int)) + (3 : Int)) % 18446744073709551616).toNat) = 0)) <| ck ((((UInt64.ofNat (a_turned % 18446744073709551616).toNat) % (UInt64.ofNat ((((1 : Int) + (((UInt64.ofNat (a_n_ % 18446744073709551616).toNat) % (6 : UInt64)).toNat : Int)) + (3 : Int)) % 18446744073709551616).toNat)).toNat : Int)) <| lp (ι := Str × Str × Int) (fun L10 q9 => br (decide (q9.2.2 < ((1 : Int) + (((UInt64.ofNat (a_n_ % 18446744073709551616).toNat) % (6 : UInt64)).toNat : Int)))) (jp (ι := Str × Str) (fun J77 => jp (ι := Str × Str) (fun J79 => br (decide ((0 : Int) < q9.2.2)) (asr (Nat.ble (q9.1.b.length + (Str.mk [44, 32]).b.length) 4611686018427387904) <| asr (Nat.ble (q9.2.1.b.length + (Str.mk [44, 32]).b.length) 4611686018427387904) <| J79 ((Str.mk (q9.1.b ++ (Str.mk [44, 32]).b)), (Str.mk (q9.2.1.b ++ (Str.mk [44, 32]).b)))) (J79 (q9.1, q9.2.1))) (fun q78 => asr (Nat.ble (q78.1.b.length + (Str.mk [101]).b.length) 4611686018427387904) <| cal (h_Digits fuel (UInt64.ofNat (q9.2.2 % 18446744073709551616).toNat)) fun y83 => asr (Nat.ble ((Str.mk (q78.1.b ++ (Str.mk [101]).b)).b.length + y83.b.length) 4611686018427387904) <| br (decide (q9.2.2 = (((UInt64.ofNat (a_turned % 18446744073709551616).toNat) % (UInt64.ofNat ((((1 : Int) + (((UInt64.ofNat (a_n_ % 18446744073709551616).toNat) % (6 : UInt64)).toNat : Int)) + (3 : Int)) % 18446744073709551616).toNat)).toNat : Int))) (asr (Nat.ble (q78.2.b.length + (Str.mk [111, 116, 104, 101, 114]).b.length) 4611686018427387904) <| J77 ((Str.mk ((Str.mk (q78.1.b ++ (Str.mk [101]).b)).b ++ y83.b)), (Str.mk (q78.2.b ++ (Str.mk [111, 116, 104, 101, 114]).b)))) (asr (Nat.ble (q78.2.b.length + (Str.mk [101]).b.length) 4611686018427387904) <| cal (h_Digits fuel (UInt64.ofNat (q9.2.2 % 18446744073709551616).toNat)) fun y87 => asr (Nat.ble ((Str.mk (q78.2.b ++ (Str.mk [101]).b)).b.length + y87.b.length) 4611686018427387904) <| J77 ((Str.mk ((Str.mk (q78.1.b ++ (Str.mk [101]).b)).b ++ y83.b)), (Str.mk ((Str.mk (q78.2.b ++ (Str.mk [101]).b)).b ++ y87.b)))))) (fun q76 => ck ((q9.2.2 + (1 : Int))) <| L10 (q76.1, q76.2, (q9.2.2 + (1 : Int))))) (jp (ι := Str × Str) (fun J91 => br a_dots (asr (Nat.ble (q9.1.b.length + (Str.mk [44, 32, 46, 46, 46]).b.length) 4611686018427387904) <| asr (Nat.ble (q9.2.1.b.length + (Str.mk [44, 32, 46, 46, 46]).b.length) 4611686018427387904) <| J91 ((Str.mk (q9.1.b ++ (Str.mk [44, 32, 46, 46, 46]).b)), (Str.mk (q9.2.1.b ++ (Str.mk [44, 32, 46, 46, 46]).b)))) (J91 (q9.1, q9.2.1))) (fun q90 => lp (ι := Str × Int) (fun L95 q94 => br (decide (q94.2 < (((UInt64.ofNat (a_added % 18446744073709551616).toNat) % (4 : UInt64)).toNat : Int))) (asr (Nat.ble (q94.1.b.length + (Str.mk [44, 32, 120]).b.length) 4611686018427387904) <| cal (h_Digits fuel (UInt64.ofNat (q94.2 % 18446744073709551616).toNat)) fun y119 => asr (Nat.ble ((Str.mk (q94.1.b ++ (Str.mk [44, 32, 120]).b)).b.length + y119.b.length) 4611686018427387904) <| ck ((q94.2 + (1 : Int))) <| L95 ((Str.mk ((Str.mk (q94.1.b ++ (Str.mk [44, 32, 120]).b)).b ++ y119.b)), (q94.2 + (1 : Int)))) (asr (Nat.ble ((Str.mk [69, 78, 85, 77, 69, 82, 65, 84, 69, 68, 32, 123, 32]).b.length + q90.1.b.length) 4611686018427387904) <| asr (Nat.ble ((Str.mk ((Str.mk [69, 78, 85, 77, 69, 82, 65, 84, 69, 68, 32, 123, 32]).b ++ q90.1.b)).b.length + (Str.mk [32, 125]).b.length) 4611686018427387904) <| asr (Nat.ble ((Str.mk [69, 78, 85, 77, 69, 82, 65, 84, 69, 68, 32, 123, 32]).b.length + q94.1.b.length) 4611686018427387904) <| asr (Nat.ble ((Str.mk ((Str.mk [69, 78, 85, 77, 69, 82, 65, 84, 69, 68, 32, 123, 32]).b ++ q94.1.b)).b.length + (Str.mk [32, 125]).b.length) 4611686018427387904) <| cal (law21_oneF (Str.mk ((Str.mk ((Str.mk [69, 78, 85, 77, 69, 82, 65, 84, 69, 68, 32, 123, 32]).b ++ q90.1.b)).b ++ (Str.mk [32, 125]).b)) (Str.mk ((Str.mk ((Str.mk [69, 78, 85, 77, 69, 82, 65, 84, 69, 68, 32, 123, 32]).b ++ q94.1.b)).b ++ (Str.mk [32, 125]).b))) fun y126 => cal (law21_awakeF ) fun y127 => jp (ι := Bool) (fun J129 => br y127 (J129 (y126.2)) (J129 (false))) (fun q128 => jp (ι := Bool) (fun J132 => br q128 (jp (ι := Bool) (fun J135 => br (decide (((1 : Int) + (((UInt64.ofNat (a_n_ % 18446744073709551616).toNat) % (6 : UInt64)).toNat : Int)) ≤ (((UInt64.ofNat (a_turned % 18446744073709551616).toNat) % (UInt64.ofNat ((((1 : Int) + (((UInt64.ofNat (a_n_ % 18446744073709551616).toNat) % (6 : UInt64)).toNat : Int)) + (3 : Int)) % 18446744073709551616).toNat)).toNat : Int))) (jp (ι := Bool) (fun J138 => br a_dots (J138 (true)) (J138 ((decide ((((UInt64.ofNat (a_added % 18446744073709551616).toNat) % (4 : UInt64)).toNat : Int) = (0 : Int)))))) (fun q137 => J135 (q137))) (J135 (false))) (fun q134 => J132 ((decide (y126.1 = q134))))) (J132 (false))) (fun q131 => some (q131))))) ((q90.2, (0 : Int)))))) (((Str.mk []), (Str.mk []), (0 : Int)))
theorem law21_ExtendItemsF_eq : law21_ExtendItems = law21_ExtendItemsF := by
  funext a_n_ a_added a_turned a_dots
  unfold law21_ExtendItems law21_ExtendItemsF
  rw [law21_awakeF_eq, law21_oneF_eq]
end Go.Proofs.YtajbipkppngccaaDoor


namespace Go.Proofs.YtajbipkppngccaaDoor
open Go.Sy
set_option maxRecDepth 4000
theorem items_t : ((List.range 6).all fun n => (List.range 4).all fun a => (List.range (n + 4)).all fun t => yes (law21_ExtendItemsF n a t true)) = true := by kernel_rfl
theorem items_f : ((List.range 6).all fun n => (List.range 4).all fun a => (List.range (n + 4)).all fun t => yes (law21_ExtendItemsF n a t false)) = true := by kernel_rfl
theorem items_true (n a t : Int) (d : Bool) : law21_ExtendItems n a t d = some true := by
  rw [law21_ExtendItemsF_eq]
  obtain ⟨x, hx, h1⟩ := red n 6 (by decide)
  obtain ⟨y, hy, h2⟩ := red a 4 (by decide)
  have hx6 : x < 6 := hx
  have e0 : ((wd (x : Int) % 6).toNat : Nat) = x := by
    rw [UInt64.toNat_mod, wd_nat (by omega)]; exact Nat.mod_eq_of_lt hx6
  have ek : (wd (((1 : Int) + ((wd (x : Int) % 6).toNat : Int)) + (3 : Int))).toNat = x + 4 := by
    have : (((1 : Int) + ((wd (x : Int) % 6).toNat : Int)) + (3 : Int)) = ((x + 4 : Nat) : Int) := by rw [e0]; omega
    rw [this, wd_nat (by omega)]
  obtain ⟨z, hz, h3⟩ := red t (wd (((1 : Int) + ((wd (x : Int) % 6).toNat : Int)) + (3 : Int))) (by omega)
  rw [ek] at hz
  have e : law21_ExtendItemsF n a t d = law21_ExtendItemsF x y z d := by
    unfold law21_ExtendItemsF
    unfold wd at h1 h2 h3
    rw [h1, h2, h3]
  rw [e]
  cases d with
  | true => exact of_yes (all_get (all_get (all_get items_t hx) hy) hz)
  | false => exact of_yes (all_get (all_get (all_get items_f hx) hy) hz)
end Go.Proofs.YtajbipkppngccaaDoor


namespace Go.Proofs.YtajbipkppngccaaDoor
open Go.Sy Go.Shelf Go.Lib Go.ChangeShapes Go.WideShapes Go.ChangeAt Go.RowKit

theorem extendItems_laid : Rows.extendItemsRow.laid = laidTwo := by kernel_rfl
theorem extendItems_ctr (a0 : Int) (a1 : Int) (a2 : Int) (a3 : Bool) : Ctr Tryd.prog 6 [isv a0, isv a1, isv a2, isv a3] [] (pureP true) := law21_ExtendItems_w (items_true a0 a1 a2 a3)

theorem extendItems_witness (os : Os) {H : Type} (enc : TypeId × Value → H) :
    (OpenSpec.ofChange Rows.extendItemsSpec).preRow enc Tryd.prog Tryd.f6 [] false laidTwo ((laidWorld os).forCall (fun _ _ => 0) ⟨#[], #[.int .i64 0, .int .i64 0, .int .i64 0, .bool false], []⟩).memory #[.int .i64 0, .int .i64 0, .int .i64 0, .bool false] := by
  have hw : (DataW.whole enc Tryd.prog ((laidWorld os).forCall (fun _ _ => 0) ⟨#[], #[.int .i64 0, .int .i64 0, .int .i64 0, .bool false], []⟩).memory Tryd.f6.params.toList (OpenSpec.ofChange Rows.extendItemsSpec).vars false #[Value.int .i64 0, .int .i64 0, .int .i64 0, .bool false].toList 8).map (fun x => (x.1, x.2.1)) =
      some ([.lit (.int .i64 0), .lit (.int .i64 0), .lit (.int .i64 0), .lit (.bool false)], []) := by kernel_rfl
  obtain ⟨⟨x1, x2, x3⟩, hx, hx1⟩ := Option.map_eq_some_iff.1 hw
  simp only [Prod.mk.injEq] at hx1
  obtain ⟨rfl, rfl⟩ := hx1
  exact OpenSpec.preRow_of_cond 8 hx (by kernel_rfl) (fun k hk => by cases hk) (by kernel_rfl) (laid_met os _)

set_option maxRecDepth 100000 in
theorem extendItems_lifted (os : Os) (started : os.Started) (H : Type) (enc : TypeId × Value → H) (F : Stop.Interp) :
    ReturnsInHanded {} Tryd.checked os 6 .any ((OpenSpec.ofChange Rows.extendItemsSpec).preRow enc Tryd.prog Tryd.f6 [] false laidTwo) (((OpenSpec.ofChange Rows.extendItemsSpec).at F).post enc Tryd.prog Tryd.f6 false true false false) :=
  law_laid (C := Tryd.checked) (B := 4) own started (by kernel_rfl) Tryd.func6
    (witness_row_atRef (enc := enc) (C := Tryd.checked) false (laidWorld os) _ rfl (by kernel_rfl) (by kernel_rfl) (by kernel_rfl) (extendItems_witness os enc))
    laidOut (by kernel_rfl) rfl rfl Tryd.underlying4
    (fun ds h => by
      match ds, h with
      | [_, _, _, _], _ => rfl)
    tabs_laid
    (fun W vs ds p hT ht hw hk => run4 (t1 := 3) (t2 := 3) (t3 := 3) (t4 := 4) hT extendItems_ctr (Opn.int Tryd.underlying3) (Opn.int Tryd.underlying3) (Opn.int Tryd.underlying3) (Opn.bool Tryd.underlying4) ht hw hk)

theorem extendItems_said : Rows.ExtendItemsSaid :=
  OpenClaim.holds_of_cond 6 Tryd.f6 rfl rfl rfl rfl rfl rfl rfl ⟨rfl, rfl, rfl, rfl, rfl⟩ rfl rfl rfl rfl rfl (by kernel_rfl) Tryd.func6 (by kernel_rfl)
    (of_decide_eq_true (by kernel_rfl)) (by unfold Func.isWrapper; rw [if_neg (of_decide_eq_false (by kernel_rfl))]; exact ⟨rfl, rfl⟩)
    (fun os started H enc _ F0 => by rw [OpenClaim.pre_eq_preRow, extendItems_laid]; exact extendItems_lifted os started H enc F0)

theorem extendItems_card : Rows.ExtendItemsCardSaid :=
  Claim7.holds_tied_plain_at .later [] [.data, .pinned] true (true, "ee422cd9fba7c25b63a55046cc4ec7c324434a13031696ab5458ab53e62a39c5") false
    extendItems_said (fun _ h => by cases h) (by kernel_rfl) (fun _ h => by cases h) extendItems_row_tie rfl ⟨rfl, rfl⟩ (by kernel_rfl) rfl
    (fun f fn hf hfn => by
      obtain rfl : f = 6 := Option.some.inj ((show Tryd.prog.funcNamed Rows.extendItemsRow.func = some 6 by kernel_rfl).symm.trans hf) |>.symm
      obtain rfl : fn = Tryd.f6 := (Option.some.inj (Tryd.func6.symm.trans hfn)).symm
      exact ⟨by kernel_rfl, fun j t ht => by
        have e : (Tryd.f6.params.toList.all fun t => !Tryd.prog.wantsStandIn t) = true := by kernel_rfl
        have := List.all_eq_true.1 e t (List.mem_of_getElem? (i := j) (by simpa using ht))
        exact (by simpa using this : Tryd.prog.wantsStandIn t = false)⟩)
    (by kernel_rfl)
end Go.Proofs.YtajbipkppngccaaDoor


