/- ExtendNames: for every value of its arguments the law returns true, and each argument reads behind the call as it read before; what the tables of utf8 hold is tied to the program's text. No condition. -/
import Derived.Test.YtajbipkppngccaaDoorExA
import Derived.Test.YtajbipkppngccaaDoorExB
import Derived.Test.YtajbipkppngccaaDoorExC
import Derived.Test.YtajbipkppngccaaDoorExD
import Derived.Test.YtajbipkppngccaaDoorExE
import Derived.Test.YtajbipkppngccaaDoorExF
import Derived.Test.YtajbipkppngccaaDoorRows
import Derived.Test.YtajbipkppngccaaDoorTie
import Derived.Test.YtajbipkppngccaaDoorCards
import Derived.SevenTiedAt
set_option linter.unusedVariables false
set_option linter.unusedSimpArgs false

namespace Go.Proofs.YtajbipkppngccaaDoor
open Go.Sy
set_option maxRecDepth 4000
def law21_ExtendNames (a_n_ : Int) (a_lacks : Int) (a_more : Bool) (a_named : Bool) : Option (Bool) :=
  asr (!decide ((8 : UInt64) = 0)) <| ck ((((UInt64.ofNat (a_n_ % 18446744073709551616).toNat) % (8 : UInt64)).toNat : Int)) <| ck (((1 : Int) + (((UInt64.ofNat (a_n_ % 18446744073709551616).toNat) % (8 : UInt64)).toNat : Int))) <| ck ((((1 : Int) + (((UInt64.ofNat (a_n_ % 18446744073709551616).toNat) % (8 : UInt64)).toNat : Int)) + (2 : Int))) <| asr (!decide ((UInt64.ofNat ((((1 : Int) + (((UInt64.ofNat (a_n_ % 18446744073709551616).toNat) % (8 : UInt64)).toNat : Int)) + (2 : Int)) % 18446744073709551616).toNat) = 0)) <| ck ((((UInt64.ofNat (a_lacks % 18446744073709551616).toNat) % (UInt64.ofNat ((((1 : Int) + (((UInt64.ofNat (a_n_ % 18446744073709551616).toNat) % (8 : UInt64)).toNat : Int)) + (2 : Int)) % 18446744073709551616).toNat)).toNat : Int)) <| lp (ι := Str × Str × Int) (fun L8 q7 => br (decide (q7.2.2 < ((1 : Int) + (((UInt64.ofNat (a_n_ % 18446744073709551616).toNat) % (8 : UInt64)).toNat : Int)))) (cal (h_Digits fuel (UInt64.ofNat (q7.2.2 % 18446744073709551616).toNat)) fun y76 => asr (Nat.ble ((Str.mk [32, 84]).b.length + y76.b.length) 4611686018427387904) <| asr (Nat.ble ((Str.mk ((Str.mk [32, 84]).b ++ y76.b)).b.length + (Str.mk [32, 58, 58, 61, 32]).b.length) 4611686018427387904) <| asr (Nat.ble (q7.1.b.length + (Str.mk ((Str.mk ((Str.mk [32, 84]).b ++ y76.b)).b ++ (Str.mk [32, 58, 58, 61, 32]).b)).b.length) 4611686018427387904) <| asr (Nat.ble ((Str.mk (q7.1.b ++ (Str.mk ((Str.mk ((Str.mk [32, 84]).b ++ y76.b)).b ++ (Str.mk [32, 58, 58, 61, 32]).b)).b)).b.length + (Str.mk [78, 85, 76, 76]).b.length) 4611686018427387904) <| jp (ι := Str) (fun J82 => br (decide (q7.2.2 = (((UInt64.ofNat (a_lacks % 18446744073709551616).toNat) % (UInt64.ofNat ((((1 : Int) + (((UInt64.ofNat (a_n_ % 18446744073709551616).toNat) % (8 : UInt64)).toNat : Int)) + (2 : Int)) % 18446744073709551616).toNat)).toNat : Int))) (cal (h_Digits fuel (UInt64.ofNat (q7.2.2 % 18446744073709551616).toNat)) fun y83 => asr (Nat.ble ((Str.mk [32, 85]).b.length + y83.b.length) 4611686018427387904) <| asr (Nat.ble ((Str.mk ((Str.mk [32, 85]).b ++ y83.b)).b.length + (Str.mk [32, 58, 58, 61, 32]).b.length) 4611686018427387904) <| J82 ((Str.mk ((Str.mk ((Str.mk [32, 85]).b ++ y83.b)).b ++ (Str.mk [32, 58, 58, 61, 32]).b)))) (J82 ((Str.mk ((Str.mk ((Str.mk [32, 84]).b ++ y76.b)).b ++ (Str.mk [32, 58, 58, 61, 32]).b))))) (fun q81 => asr (Nat.ble (q7.2.1.b.length + q81.b.length) 4611686018427387904) <| asr (Nat.ble ((Str.mk (q7.2.1.b ++ q81.b)).b.length + (Str.mk [78, 85, 76, 76]).b.length) 4611686018427387904) <| ck ((q7.2.2 + (1 : Int))) <| L8 ((Str.mk ((Str.mk (q7.1.b ++ (Str.mk ((Str.mk ((Str.mk [32, 84]).b ++ y76.b)).b ++ (Str.mk [32, 58, 58, 61, 32]).b)).b)).b ++ (Str.mk [78, 85, 76, 76]).b)), (Str.mk ((Str.mk (q7.2.1.b ++ q81.b)).b ++ (Str.mk [78, 85, 76, 76]).b)), (q7.2.2 + (1 : Int))))) (jp (ι := Str) (fun J90 => br a_more (asr (Nat.ble (q7.2.1.b.length + (Str.mk [32, 90, 32, 58, 58, 61, 32, 66, 79, 79, 76, 69, 65, 78]).b.length) 4611686018427387904) <| J90 ((Str.mk (q7.2.1.b ++ (Str.mk [32, 90, 32, 58, 58, 61, 32, 66, 79, 79, 76, 69, 65, 78]).b)))) (J90 (q7.2.1))) (fun q89 => jp (ι := Str) (fun J93 => br a_named (J93 ((Str.mk [77]))) (J93 ((Str.mk [78])))) (fun q92 => asr (Nat.ble ((Str.mk [77, 32, 68, 69, 70, 73, 78, 73, 84, 73, 79, 78, 83, 32, 58, 58, 61, 32, 66, 69, 71, 73, 78]).b.length + q7.1.b.length) 4611686018427387904) <| asr (Nat.ble ((Str.mk ((Str.mk [77, 32, 68, 69, 70, 73, 78, 73, 84, 73, 79, 78, 83, 32, 58, 58, 61, 32, 66, 69, 71, 73, 78]).b ++ q7.1.b)).b.length + (Str.mk [32, 69, 78, 68]).b.length) 4611686018427387904) <| cal (oghamplay_Table (Str.mk ((Str.mk ((Str.mk [77, 32, 68, 69, 70, 73, 78, 73, 84, 73, 79, 78, 83, 32, 58, 58, 61, 32, 66, 69, 71, 73, 78]).b ++ q7.1.b)).b ++ (Str.mk [32, 69, 78, 68]).b))) fun y96 => asr (Nat.ble (q92.b.length + (Str.mk [32, 68, 69, 70, 73, 78, 73, 84, 73, 79, 78, 83, 32, 58, 58, 61, 32, 66, 69, 71, 73, 78]).b.length) 4611686018427387904) <| asr (Nat.ble ((Str.mk (q92.b ++ (Str.mk [32, 68, 69, 70, 73, 78, 73, 84, 73, 79, 78, 83, 32, 58, 58, 61, 32, 66, 69, 71, 73, 78]).b)).b.length + q89.b.length) 4611686018427387904) <| asr (Nat.ble ((Str.mk ((Str.mk (q92.b ++ (Str.mk [32, 68, 69, 70, 73, 78, 73, 84, 73, 79, 78, 83, 32, 58, 58, 61, 32, 66, 69, 71, 73, 78]).b)).b ++ q89.b)).b.length + (Str.mk [32, 69, 78, 68]).b.length) 4611686018427387904) <| cal (oghamplay_Table (Str.mk ((Str.mk ((Str.mk (q92.b ++ (Str.mk [32, 68, 69, 70, 73, 78, 73, 84, 73, 79, 78, 83, 32, 58, 58, 61, 32, 66, 69, 71, 73, 78]).b)).b ++ q89.b)).b ++ (Str.mk [32, 69, 78, 68]).b))) fun y101 => cal (extend_May y96.1 y101.1) fun y103 => br (!a_named) (cal (law21_awake ) fun y104 => jp (ι := Bool) (fun J106 => br y104 (J106 (y96.2)) (J106 (false))) (fun q105 => jp (ι := Bool) (fun J109 => br q105 (J109 (y101.2)) (J109 (false))) (fun q108 => jp (ι := Bool) (fun J112 => br q108 (J112 ((decide (y103.2 = (14 : Int))))) (J112 (false))) (fun q111 => jp (ι := Bool) (fun J115 => br q111 (J115 ((decide (y103.1 = (0 : Int))))) (J115 (false))) (fun q114 => some (q114)))))) (br (decide ((((UInt64.ofNat (a_lacks % 18446744073709551616).toNat) % (UInt64.ofNat ((((1 : Int) + (((UInt64.ofNat (a_n_ % 18446744073709551616).toNat) % (8 : UInt64)).toNat : Int)) + (2 : Int)) % 18446744073709551616).toNat)).toNat : Int) < ((1 : Int) + (((UInt64.ofNat (a_n_ % 18446744073709551616).toNat) % (8 : UInt64)).toNat : Int)))) (cal (law21_awake ) fun y117 => jp (ι := Bool) (fun J119 => br y117 (J119 (y96.2)) (J119 (false))) (fun q118 => jp (ι := Bool) (fun J122 => br q118 (J122 (y101.2)) (J122 (false))) (fun q121 => jp (ι := Bool) (fun J125 => br q121 (J125 ((decide (y103.2 = (14 : Int))))) (J125 (false))) (fun q124 => jp (ι := Bool) (fun J128 => br q124 (J128 ((decide (y103.1 = (((UInt64.ofNat (a_lacks % 18446744073709551616).toNat) % (UInt64.ofNat ((((1 : Int) + (((UInt64.ofNat (a_n_ % 18446744073709551616).toNat) % (8 : UInt64)).toNat : Int)) + (2 : Int)) % 18446744073709551616).toNat)).toNat : Int))))) (J128 (false))) (fun q127 => some (q127)))))) (cal (law21_awake ) fun y130 => jp (ι := Bool) (fun J132 => br y130 (J132 (y96.2)) (J132 (false))) (fun q131 => jp (ι := Bool) (fun J135 => br q131 (J135 (y101.2)) (J135 (false))) (fun q134 => jp (ι := Bool) (fun J138 => br q134 (J138 ((decide (y103.2 = (0 : Int))))) (J138 (false))) (fun q137 => jp (ι := Bool) (fun J141 => br q137 (J141 ((decide (y103.1 = (0 : Int))))) (J141 (false))) (fun q140 => some (q140))))))))))) (((Str.mk []), (Str.mk []), (0 : Int)))
end Go.Proofs.YtajbipkppngccaaDoor


namespace Go.Proofs.YtajbipkppngccaaDoor
open Go.Sy
set_option maxRecDepth 4000
end Go.Proofs.YtajbipkppngccaaDoor


namespace Go.Proofs.YtajbipkppngccaaDoor
open Go.Sy
set_option maxRecDepth 4000
theorem law21_ExtendNames_w : ∀ {a_n_ : Int} {a_lacks : Int} {a_more : Bool} {a_named : Bool} {r : Bool}, law21_ExtendNames a_n_ a_lacks a_more a_named = some r → Ctr Tryd.prog 8 [isv (a_n_), isv (a_lacks), isv (a_more), isv (a_named)] [] (fun R H => R = oneOf [isv (r)] ∧ H = []) := by
 intro a_n_ a_lacks a_more a_named r h
 unfold law21_ExtendNames at h
 refine spec_intro Tryd.func8 rfl (by decide +kernel) (by rfl) fun w0 S0 hT => ?_
 refine wsr ?_
 refine oV (v_assign rfl) ?_
 refine rnf ?_
 refine wsr ?_
 refine oV (v_move rfl) ?_
 refine oV (v_toU Tryd.underlying3 Tryd.underlying37 rfl) ?_
 refine asr_inv h fun q1 h => ?_
 refine oV (v_rem64 rfl rfl q1) ?_
 refine ck_inv h fun q2 h => ?_
 refine oV (v_u64i Tryd.underlying37 Tryd.underlying3 rfl q2) ?_
 refine ck_inv h fun q3 h => ?_
 refine oV (v_add rfl rfl q3) ?_
 refine oV (v_assign rfl) ?_
 refine rnf ?_
 refine wsr ?_
 refine oV (v_move rfl) ?_
 refine oV (v_toU Tryd.underlying3 Tryd.underlying37 rfl) ?_
 refine oV (v_move rfl) ?_
 refine ck_inv h fun q4 h => ?_
 refine oV (v_add rfl rfl q4) ?_
 refine oV (v_toU Tryd.underlying3 Tryd.underlying37 rfl) ?_
 refine asr_inv h fun q5 h => ?_
 refine oV (v_rem64 rfl rfl q5) ?_
 refine ck_inv h fun q6 h => ?_
 refine oV (v_u64i Tryd.underlying37 Tryd.underlying3 rfl q6) ?_
 refine oV (v_assign rfl) ?_
 refine rnf ?_
 refine wsr ?_
 refine oV (v_assign rfl) ?_
 refine oV (v_assign rfl) ?_
 refine rnf ?_
 refine w_seq ?_
 refine wsr ?_
 refine oV (v_assign rfl) ?_
 refine rnf ?_
 refine w_block ?_
 refine w_lp (ι := Str × Str × Int) (γ := Unit) (fun q7 g7 => [(9, isv (q7.1)), (10, isv (q7.2.1)), (11, isv (q7.2.2))]) (fun q7 g7 => []) h () (mod_cons (j := 9) rfl (fun _ _ h => h) (mod_cons (j := 10) rfl (fun _ _ h => h) (mod_cons (j := 11) rfl (fun _ _ h => h) mod_nil))) .nil (fun L8 q7 g7 Q143 h hL8 eL8 rL8 => ?_)
 refine w_seq ?_
 refine wsr ?_
 refine oV (v_move rfl) ?_
 refine oV (v_move rfl) ?_
 refine oV (v_lss rfl rfl) ?_
 refine rnf ?_
 refine w_condM h rfl (fun _ h => ?_) (fun _ h => ?_)
 ·
  refine wkf ?_
  refine w_seq ?_
  refine w_block ?_
  refine wsr ?_
  refine oV (v_move rfl) ?_
  refine oV (v_toU Tryd.underlying3 Tryd.underlying39 rfl) ?_
  refine cal_inv h fun y76 hy76 h => ?_
  refine oT (t_call (h_Digits_w fuel hy76) hT (.same rfl .nil) .nil (fun R H' hR => ?_))
  obtain ⟨rfl, rfl⟩ := hR
  refine asr_inv h fun q77 h => ?_
  refine oV (v_cat rfl rfl q77) ?_
  refine asr_inv h fun q78 h => ?_
  refine oV (v_cat rfl rfl q78) ?_
  refine oV (v_assign rfl) ?_
  refine rnf ?_
  refine wsr ?_
  refine oV (v_move rfl) ?_
  refine oV (v_move rfl) ?_
  refine asr_inv h fun q79 h => ?_
  refine oV (v_cat rfl rfl q79) ?_
  refine asr_inv h fun q80 h => ?_
  refine oV (v_cat rfl rfl q80) ?_
  refine oV (v_assign rfl) ?_
  refine rnf ?_
  refine w_seq ?_
  refine wsr ?_
  refine oV (v_move rfl) ?_
  refine oV (v_move rfl) ?_
  refine oV (v_eql rfl rfl) ?_
  refine rnf ?_
  refine w_J (ι := Str) (γ := Unit) (fun q81 g81 => [(12, isv (q81))]) (fun q81 g81 => []) .nil h (fun q81 g81 h => ?_) (fun J82 h hJ82 => ?_)
  ·
   refine w_region ?_
   refine oV (v_move rfl) ?_
   refine oV (v_move rfl) ?_
   refine asr_inv h fun q86 h => ?_
   refine oV (v_cat rfl rfl q86) ?_
   refine asr_inv h fun q87 h => ?_
   refine oV (v_cat rfl rfl q87) ?_
   refine oV (v_assign rfl) ?_
   refine rl_nil ?_
   refine fin_block ?_
   refine fin_nxt ?_
   refine w_region ?_
   refine oV (v_move rfl) ?_
   refine ck_inv h fun q88 h => ?_
   refine oV (v_add rfl rfl q88) ?_
   refine oV (v_assign rfl) ?_
   refine rl_nil ?_
   exact hL8 _ () h _ (join_imp 29 rfl rfl (mod_cons (j := 9) rfl (fun _ _ h => h) (mod_cons (j := 10) rfl (fun _ _ h => h) (mod_cons (j := 11) rfl (fun _ _ h => h) mod_nil))) .nil)
  ·
   refine w_condM h rfl (fun _ h => ?_) (fun _ h => ?_)
   ·
    refine w_region ?_
    refine oV (v_move rfl) ?_
    refine oV (v_toU Tryd.underlying3 Tryd.underlying39 rfl) ?_
    refine cal_inv h fun y83 hy83 h => ?_
    refine oT (t_call (h_Digits_w fuel hy83) hT (.same rfl .nil) .nil (fun R H' hR => ?_))
    obtain ⟨rfl, rfl⟩ := hR
    refine asr_inv h fun q84 h => ?_
    refine oV (v_cat rfl rfl q84) ?_
    refine asr_inv h fun q85 h => ?_
    refine oV (v_cat rfl rfl q85) ?_
    refine oV (v_assign rfl) ?_
    refine rl_nil ?_
    exact hJ82 _ () h _ (join_imp 6 rfl rfl (mod_cons (j := 12) rfl (fun _ _ h => h) mod_nil) .nil)
   ·
    refine w_skip ?_
    exact hJ82 _ () h _ (join_imp 0 rfl rfl (mod_cons (j := 12) rfl (fun _ _ h => h) mod_nil) .nil)
 ·
  refine w_exit ?_
  refine exi_nxt ?_
  refine eL8 _ _ ?_
  refine exi_block ?_
  refine fin_nxt ?_
  refine w_seq ?_
  refine wsr ?_
  refine oV (v_move rfl) ?_
  refine rnf ?_
  refine w_J (ι := Str) (γ := Unit) (fun q89 g89 => [(10, isv (q89))]) (fun q89 g89 => []) .nil h (fun q89 g89 h => ?_) (fun J90 h hJ90 => ?_)
  ·
   refine wsr ?_
   refine oV (v_assign rfl) ?_
   refine rnf ?_
   refine w_seq ?_
   refine wsr ?_
   refine oV (v_move rfl) ?_
   refine rnf ?_
   refine w_J (ι := Str) (γ := Unit) (fun q92 g92 => [(13, isv (q92))]) (fun q92 g92 => []) .nil h (fun q92 g92 h => ?_) (fun J93 h hJ93 => ?_)
   ·
    refine wsr ?_
    refine oV (v_move rfl) ?_
    refine asr_inv h fun q94 h => ?_
    refine oV (v_cat rfl rfl q94) ?_
    refine asr_inv h fun q95 h => ?_
    refine oV (v_cat rfl rfl q95) ?_
    refine cal_inv h fun y96 hy96 h => ?_
    refine oT (t_call (oghamplay_Table_w hy96) hT (.same rfl .nil) .nil (fun R H' hR => ?_))
    obtain ⟨rfl, rfl⟩ := hR
    refine oV (v_move rfl) ?_
    refine oV (v_extract rfl rfl) ?_
    refine oV (v_extract rfl rfl) ?_
    refine oT (t_alloc _ ze26 fun b97 => ?_)
    refine oT (t_storeC (y' := (y96.1 : GTab)) ty26 rfl rfl (fun _ _ h => h) .here rfl ?_)
    refine rl_upd (upd_imm 14 .here rfl) ?_
    refine oV (v_assign rfl) ?_
    refine rnf ?_
    refine wsr ?_
    refine oV (v_move rfl) ?_
    refine asr_inv h fun q98 h => ?_
    refine oV (v_cat rfl rfl q98) ?_
    refine oV (v_move rfl) ?_
    refine asr_inv h fun q99 h => ?_
    refine oV (v_cat rfl rfl q99) ?_
    refine asr_inv h fun q100 h => ?_
    refine oV (v_cat rfl rfl q100) ?_
    refine cal_inv h fun y101 hy101 h => ?_
    refine oT (t_call (oghamplay_Table_w hy101) hT (.same rfl .nil) .nil (fun R H' hR => ?_))
    obtain ⟨rfl, rfl⟩ := hR
    refine oV (v_move rfl) ?_
    refine oV (v_extract rfl rfl) ?_
    refine oV (v_extract rfl rfl) ?_
    refine oT (t_alloc _ ze26 fun b102 => ?_)
    refine oT (t_storeC (y' := (y101.1 : GTab)) ty26 rfl rfl (fun _ _ h => h) .here rfl ?_)
    refine rl_upd (upd_imm 16 .here rfl) ?_
    refine oV (v_assign rfl) ?_
    refine rnf ?_
    refine wsr ?_
    refine oV (v_loadI ty26 rfl) ?_
    refine oV (v_loadI ty26 rfl) ?_
    refine cal_inv h fun y103 hy103 h => ?_
    refine oT (t_call (extend_May_w hy103) hT (.same rfl (.same rfl .nil)) .nil (fun R H' hR => ?_))
    obtain ⟨rfl, rfl⟩ := hR
    refine oV (v_move rfl) ?_
    refine oV (v_extract rfl rfl) ?_
    refine oV (v_extract rfl rfl) ?_
    refine oV (v_assign rfl) ?_
    refine oV (v_assign rfl) ?_
    refine rnf ?_
    refine w_seq ?_
    refine wsr ?_
    refine oV (v_move rfl) ?_
    refine oV (v_not rfl) ?_
    refine rnf ?_
    refine w_condM h rfl (fun _ h => ?_) (fun _ h => ?_)
    ·
     refine wsr ?_
     refine cal_inv h fun y104 hy104 h => ?_
     refine oT (t_call (law21_awake_w hy104) hT .nil .nil (fun R H' hR => ?_))
     obtain ⟨rfl, rfl⟩ := hR
     refine oV (v_move rfl) ?_
     refine rl_j (ι := Bool) (γ := Unit) (fun q105 g105 => [(89, isv (q105))]) (fun q105 g105 => []) .nil h 2 rfl (fun q105 g105 h => ?_) (fun J106 h hJ106 => ?_)
     ·
      refine oV (v_move rfl) ?_
      refine rl_j (ι := Bool) (γ := Unit) (fun q108 g108 => [(92, isv (q108))]) (fun q108 g108 => []) .nil h 2 rfl (fun q108 g108 h => ?_) (fun J109 h hJ109 => ?_)
      ·
       refine oV (v_move rfl) ?_
       refine rl_j (ι := Bool) (γ := Unit) (fun q111 g111 => [(96, isv (q111))]) (fun q111 g111 => []) .nil h 3 rfl (fun q111 g111 h => ?_) (fun J112 h hJ112 => ?_)
       ·
        refine oV (v_move rfl) ?_
        refine rl_j (ι := Bool) (γ := Unit) (fun q114 g114 => [(100, isv (q114))]) (fun q114 g114 => []) .nil h 3 rfl (fun q114 g114 h => ?_) (fun J115 h hJ115 => ?_)
        ·
         refine oV (v_assign rfl) ?_
         refine rnf ?_
         refine w_ret ?_
         refine ret_nxt ?_
         refine ret_post (.tmp rfl .nil) .nil ?_
         obtain rfl := Option.some.inj h
         exact ⟨rfl, rfl⟩
        ·
         refine rl_condM (j := 97) h rfl (fun g116 h => ?_) (fun g116 h => ?_)
         ·
          refine op_take rfl rfl (dj := 97) rfl g116 (OpV.t (v_move rfl) ?_)
          refine op_take rfl rfl (dj := 97) rfl g116 (OpV.t (v_eql rfl rfl) ?_)
          refine oV (v_pick_t rfl g116 rfl) ?_
          exact hJ115 _ () h _ (join_imp 3 rfl rfl (mod_cons (j := 100) rfl (fun _ _ h => h) mod_nil) .nil)
         ·
          refine op_pass rfl (dj := 97) rfl g116 ?_
          refine op_pass rfl (dj := 97) rfl g116 ?_
          refine oV (v_pick_f rfl g116 rfl) ?_
          exact hJ115 _ () h _ (join_imp 3 rfl rfl (mod_cons (j := 100) rfl (fun _ _ h => h) mod_nil) .nil)
       ·
        refine rl_condM (j := 93) h rfl (fun g113 h => ?_) (fun g113 h => ?_)
        ·
         refine op_take rfl rfl (dj := 93) rfl g113 (OpV.t (v_move rfl) ?_)
         refine op_take rfl rfl (dj := 93) rfl g113 (OpV.t (v_eql rfl rfl) ?_)
         refine oV (v_pick_t rfl g113 rfl) ?_
         exact hJ112 _ () h _ (join_imp 3 rfl rfl (mod_cons (j := 96) rfl (fun _ _ h => h) mod_nil) .nil)
        ·
         refine op_pass rfl (dj := 93) rfl g113 ?_
         refine op_pass rfl (dj := 93) rfl g113 ?_
         refine oV (v_pick_f rfl g113 rfl) ?_
         exact hJ112 _ () h _ (join_imp 3 rfl rfl (mod_cons (j := 96) rfl (fun _ _ h => h) mod_nil) .nil)
      ·
       refine rl_condM (j := 90) h rfl (fun g110 h => ?_) (fun g110 h => ?_)
       ·
        refine op_take rfl rfl (dj := 90) rfl g110 (OpV.t (v_move rfl) ?_)
        refine oV (v_pick_t rfl g110 rfl) ?_
        exact hJ109 _ () h _ (join_imp 2 rfl rfl (mod_cons (j := 92) rfl (fun _ _ h => h) mod_nil) .nil)
       ·
        refine op_pass rfl (dj := 90) rfl g110 ?_
        refine oV (v_pick_f rfl g110 rfl) ?_
        exact hJ109 _ () h _ (join_imp 2 rfl rfl (mod_cons (j := 92) rfl (fun _ _ h => h) mod_nil) .nil)
     ·
      refine rl_condM (j := 87) h rfl (fun g107 h => ?_) (fun g107 h => ?_)
      ·
       refine op_take rfl rfl (dj := 87) rfl g107 (OpV.t (v_move rfl) ?_)
       refine oV (v_pick_t rfl g107 rfl) ?_
       exact hJ106 _ () h _ (join_imp 2 rfl rfl (mod_cons (j := 89) rfl (fun _ _ h => h) mod_nil) .nil)
      ·
       refine op_pass rfl (dj := 87) rfl g107 ?_
       refine oV (v_pick_f rfl g107 rfl) ?_
       exact hJ106 _ () h _ (join_imp 2 rfl rfl (mod_cons (j := 89) rfl (fun _ _ h => h) mod_nil) .nil)
    ·
     refine wkf ?_
     refine w_seq ?_
     refine wsr ?_
     refine oV (v_move rfl) ?_
     refine oV (v_move rfl) ?_
     refine oV (v_lss rfl rfl) ?_
     refine rnf ?_
     refine w_condM h rfl (fun _ h => ?_) (fun _ h => ?_)
     ·
      refine wsr ?_
      refine cal_inv h fun y117 hy117 h => ?_
      refine oT (t_call (law21_awake_w hy117) hT .nil .nil (fun R H' hR => ?_))
      obtain ⟨rfl, rfl⟩ := hR
      refine oV (v_move rfl) ?_
      refine rl_j (ι := Bool) (γ := Unit) (fun q118 g118 => [(107, isv (q118))]) (fun q118 g118 => []) .nil h 2 rfl (fun q118 g118 h => ?_) (fun J119 h hJ119 => ?_)
      ·
       refine oV (v_move rfl) ?_
       refine rl_j (ι := Bool) (γ := Unit) (fun q121 g121 => [(110, isv (q121))]) (fun q121 g121 => []) .nil h 2 rfl (fun q121 g121 h => ?_) (fun J122 h hJ122 => ?_)
       ·
        refine oV (v_move rfl) ?_
        refine rl_j (ι := Bool) (γ := Unit) (fun q124 g124 => [(114, isv (q124))]) (fun q124 g124 => []) .nil h 3 rfl (fun q124 g124 h => ?_) (fun J125 h hJ125 => ?_)
        ·
         refine oV (v_move rfl) ?_
         refine rl_j (ι := Bool) (γ := Unit) (fun q127 g127 => [(119, isv (q127))]) (fun q127 g127 => []) .nil h 4 rfl (fun q127 g127 h => ?_) (fun J128 h hJ128 => ?_)
         ·
          refine oV (v_assign rfl) ?_
          refine rnf ?_
          refine w_ret ?_
          refine ret_nxt ?_
          refine ret_post (.tmp rfl .nil) .nil ?_
          obtain rfl := Option.some.inj h
          exact ⟨rfl, rfl⟩
         ·
          refine rl_condM (j := 115) h rfl (fun g129 h => ?_) (fun g129 h => ?_)
          ·
           refine op_take rfl rfl (dj := 115) rfl g129 (OpV.t (v_move rfl) ?_)
           refine op_take rfl rfl (dj := 115) rfl g129 (OpV.t (v_move rfl) ?_)
           refine op_take rfl rfl (dj := 115) rfl g129 (OpV.t (v_eql rfl rfl) ?_)
           refine oV (v_pick_t rfl g129 rfl) ?_
           exact hJ128 _ () h _ (join_imp 4 rfl rfl (mod_cons (j := 119) rfl (fun _ _ h => h) mod_nil) .nil)
          ·
           refine op_pass rfl (dj := 115) rfl g129 ?_
           refine op_pass rfl (dj := 115) rfl g129 ?_
           refine op_pass rfl (dj := 115) rfl g129 ?_
           refine oV (v_pick_f rfl g129 rfl) ?_
           exact hJ128 _ () h _ (join_imp 4 rfl rfl (mod_cons (j := 119) rfl (fun _ _ h => h) mod_nil) .nil)
        ·
         refine rl_condM (j := 111) h rfl (fun g126 h => ?_) (fun g126 h => ?_)
         ·
          refine op_take rfl rfl (dj := 111) rfl g126 (OpV.t (v_move rfl) ?_)
          refine op_take rfl rfl (dj := 111) rfl g126 (OpV.t (v_eql rfl rfl) ?_)
          refine oV (v_pick_t rfl g126 rfl) ?_
          exact hJ125 _ () h _ (join_imp 3 rfl rfl (mod_cons (j := 114) rfl (fun _ _ h => h) mod_nil) .nil)
         ·
          refine op_pass rfl (dj := 111) rfl g126 ?_
          refine op_pass rfl (dj := 111) rfl g126 ?_
          refine oV (v_pick_f rfl g126 rfl) ?_
          exact hJ125 _ () h _ (join_imp 3 rfl rfl (mod_cons (j := 114) rfl (fun _ _ h => h) mod_nil) .nil)
       ·
        refine rl_condM (j := 108) h rfl (fun g123 h => ?_) (fun g123 h => ?_)
        ·
         refine op_take rfl rfl (dj := 108) rfl g123 (OpV.t (v_move rfl) ?_)
         refine oV (v_pick_t rfl g123 rfl) ?_
         exact hJ122 _ () h _ (join_imp 2 rfl rfl (mod_cons (j := 110) rfl (fun _ _ h => h) mod_nil) .nil)
        ·
         refine op_pass rfl (dj := 108) rfl g123 ?_
         refine oV (v_pick_f rfl g123 rfl) ?_
         exact hJ122 _ () h _ (join_imp 2 rfl rfl (mod_cons (j := 110) rfl (fun _ _ h => h) mod_nil) .nil)
      ·
       refine rl_condM (j := 105) h rfl (fun g120 h => ?_) (fun g120 h => ?_)
       ·
        refine op_take rfl rfl (dj := 105) rfl g120 (OpV.t (v_move rfl) ?_)
        refine oV (v_pick_t rfl g120 rfl) ?_
        exact hJ119 _ () h _ (join_imp 2 rfl rfl (mod_cons (j := 107) rfl (fun _ _ h => h) mod_nil) .nil)
       ·
        refine op_pass rfl (dj := 105) rfl g120 ?_
        refine oV (v_pick_f rfl g120 rfl) ?_
        exact hJ119 _ () h _ (join_imp 2 rfl rfl (mod_cons (j := 107) rfl (fun _ _ h => h) mod_nil) .nil)
     ·
      refine wkf ?_
      refine wsr ?_
      refine cal_inv h fun y130 hy130 h => ?_
      refine oT (t_call (law21_awake_w hy130) hT .nil .nil (fun R H' hR => ?_))
      obtain ⟨rfl, rfl⟩ := hR
      refine oV (v_move rfl) ?_
      refine rl_j (ι := Bool) (γ := Unit) (fun q131 g131 => [(123, isv (q131))]) (fun q131 g131 => []) .nil h 2 rfl (fun q131 g131 h => ?_) (fun J132 h hJ132 => ?_)
      ·
       refine oV (v_move rfl) ?_
       refine rl_j (ι := Bool) (γ := Unit) (fun q134 g134 => [(126, isv (q134))]) (fun q134 g134 => []) .nil h 2 rfl (fun q134 g134 h => ?_) (fun J135 h hJ135 => ?_)
       ·
        refine oV (v_move rfl) ?_
        refine rl_j (ι := Bool) (γ := Unit) (fun q137 g137 => [(130, isv (q137))]) (fun q137 g137 => []) .nil h 3 rfl (fun q137 g137 h => ?_) (fun J138 h hJ138 => ?_)
        ·
         refine oV (v_move rfl) ?_
         refine rl_j (ι := Bool) (γ := Unit) (fun q140 g140 => [(134, isv (q140))]) (fun q140 g140 => []) .nil h 3 rfl (fun q140 g140 h => ?_) (fun J141 h hJ141 => ?_)
         ·
          refine oV (v_assign rfl) ?_
          refine rnf ?_
          refine w_ret ?_
          refine ret_post (.tmp rfl .nil) .nil ?_
          obtain rfl := Option.some.inj h
          exact ⟨rfl, rfl⟩
         ·
          refine rl_condM (j := 131) h rfl (fun g142 h => ?_) (fun g142 h => ?_)
          ·
           refine op_take rfl rfl (dj := 131) rfl g142 (OpV.t (v_move rfl) ?_)
           refine op_take rfl rfl (dj := 131) rfl g142 (OpV.t (v_eql rfl rfl) ?_)
           refine oV (v_pick_t rfl g142 rfl) ?_
           exact hJ141 _ () h _ (join_imp 3 rfl rfl (mod_cons (j := 134) rfl (fun _ _ h => h) mod_nil) .nil)
          ·
           refine op_pass rfl (dj := 131) rfl g142 ?_
           refine op_pass rfl (dj := 131) rfl g142 ?_
           refine oV (v_pick_f rfl g142 rfl) ?_
           exact hJ141 _ () h _ (join_imp 3 rfl rfl (mod_cons (j := 134) rfl (fun _ _ h => h) mod_nil) .nil)
        ·
         refine rl_condM (j := 127) h rfl (fun g139 h => ?_) (fun g139 h => ?_)
         ·
          refine op_take rfl rfl (dj := 127) rfl g139 (OpV.t (v_move rfl) ?_)
          refine op_take rfl rfl (dj := 127) rfl g139 (OpV.t (v_eql rfl rfl) ?_)
          refine oV (v_pick_t rfl g139 rfl) ?_
          exact hJ138 _ () h _ (join_imp 3 rfl rfl (mod_cons (j := 130) rfl (fun _ _ h => h) mod_nil) .nil)
         ·
          refine op_pass rfl (dj := 127) rfl g139 ?_
          refine op_pass rfl (dj := 127) rfl g139 ?_
          refine oV (v_pick_f rfl g139 rfl) ?_
          exact hJ138 _ () h _ (join_imp 3 rfl rfl (mod_cons (j := 130) rfl (fun _ _ h => h) mod_nil) .nil)
       ·
        refine rl_condM (j := 124) h rfl (fun g136 h => ?_) (fun g136 h => ?_)
        ·
         refine op_take rfl rfl (dj := 124) rfl g136 (OpV.t (v_move rfl) ?_)
         refine oV (v_pick_t rfl g136 rfl) ?_
         exact hJ135 _ () h _ (join_imp 2 rfl rfl (mod_cons (j := 126) rfl (fun _ _ h => h) mod_nil) .nil)
        ·
         refine op_pass rfl (dj := 124) rfl g136 ?_
         refine oV (v_pick_f rfl g136 rfl) ?_
         exact hJ135 _ () h _ (join_imp 2 rfl rfl (mod_cons (j := 126) rfl (fun _ _ h => h) mod_nil) .nil)
      ·
       refine rl_condM (j := 121) h rfl (fun g133 h => ?_) (fun g133 h => ?_)
       ·
        refine op_take rfl rfl (dj := 121) rfl g133 (OpV.t (v_move rfl) ?_)
        refine oV (v_pick_t rfl g133 rfl) ?_
        exact hJ132 _ () h _ (join_imp 2 rfl rfl (mod_cons (j := 123) rfl (fun _ _ h => h) mod_nil) .nil)
       ·
        refine op_pass rfl (dj := 121) rfl g133 ?_
        refine oV (v_pick_f rfl g133 rfl) ?_
        exact hJ132 _ () h _ (join_imp 2 rfl rfl (mod_cons (j := 123) rfl (fun _ _ h => h) mod_nil) .nil)
   ·
    refine w_condM h rfl (fun _ h => ?_) (fun _ h => ?_)
    ·
     refine w_region ?_
     refine oV (v_assign rfl) ?_
     refine rl_nil ?_
     exact hJ93 _ () h _ (join_imp 1 rfl rfl (mod_cons (j := 13) rfl (fun _ _ h => h) mod_nil) .nil)
    ·
     refine w_skip ?_
     exact hJ93 _ () h _ (join_imp 0 rfl rfl (mod_cons (j := 13) rfl (fun _ _ h => h) mod_nil) .nil)
  ·
   refine w_condM h rfl (fun _ h => ?_) (fun _ h => ?_)
   ·
    refine w_region ?_
    refine oV (v_move rfl) ?_
    refine asr_inv h fun q91 h => ?_
    refine oV (v_cat rfl rfl q91) ?_
    refine oV (v_assign rfl) ?_
    refine rl_nil ?_
    exact hJ90 _ () h _ (join_imp 3 rfl rfl (mod_cons (j := 10) rfl (fun _ _ h => h) mod_nil) .nil)
   ·
    refine w_skip ?_
    exact hJ90 _ () h _ (join_imp 0 rfl rfl (mod_cons (j := 10) rfl (fun _ _ h => h) mod_nil) .nil)

end Go.Proofs.YtajbipkppngccaaDoor


namespace Go.Proofs.YtajbipkppngccaaDoor
open Go.Sy
set_option maxRecDepth 4000
def law21_ExtendNamesF (a_n_ : Int) (a_lacks : Int) (a_more : Bool) (a_named : Bool) : Option (Bool) :=
  asr (!decide ((8 : UInt64) = 0)) <| ck ((((UInt64.ofNat (a_n_ % 18446744073709551616).toNat) % (8 : UInt64)).toNat : Int)) <| ck (((1 : Int) + (((UInt64.ofNat (a_n_ % 18446744073709551616).toNat) % (8 : UInt64)).toNat : Int))) <| ck ((((1 : Int) + (((UInt64.ofNat (a_n_ % 18446744073709551616).toNat) % (8 : UInt64)).toNat : Int)) + (2 : Int))) <| asr (!decide ((UInt64.ofNat ((((1 : Int) + (((UInt64.ofNat (a_n_ % 18446744073709551616).toNat) % (8 : UInt64)).toNat : Int)) + (2 : Int)) % 18446744073709551616).toNat) = 0)) <| ck ((((UInt64.ofNat (a_lacks % 18446744073709551616).toNat) % (UInt64.ofNat ((((1 : Int) + (((UInt64.ofNat (a_n_ % 18446744073709551616).toNat) % (8 : UInt64)).toNat : Int)) + (2 : Int)) % 18446744073709551616).toNat)).toNat : Int)) <| lp (ι := Str × Str × Int) (fun L8 q7 => br (decide (q7.2.2 < ((1 : Int) + (((UInt64.ofNat (a_n_ % 18446744073709551616).toNat) % (8 : UInt64)).toNat : Int)))) (cal (h_Digits fuel (UInt64.ofNat (q7.2.2 % 18446744073709551616).toNat)) fun y76 => asr (Nat.ble ((Str.mk [32, 84]).b.length + y76.b.length) 4611686018427387904) <| asr (Nat.ble ((Str.mk ((Str.mk [32, 84]).b ++ y76.b)).b.length + (Str.mk [32, 58, 58, 61, 32]).b.length) 4611686018427387904) <| asr (Nat.ble (q7.1.b.length + (Str.mk ((Str.mk ((Str.mk [32, 84]).b ++ y76.b)).b ++ (Str.mk [32, 58, 58, 61, 32]).b)).b.length) 4611686018427387904) <| asr (Nat.ble ((Str.mk (q7.1.b ++ (Str.mk ((Str.mk ((Str.mk [32, 84]).b ++ y76.b)).b ++ (Str.mk [32, 58, 58, 61, 32]).b)).b)).b.length + (Str.mk [78, 85, 76, 76]).b.length) 4611686018427387904) <| jp (ι := Str) (fun J82 => br (decide (q7.2.2 = (((UInt64.ofNat (a_lacks % 18446744073709551616).toNat) % (UInt64.ofNat ((((1 : Int) + (((UInt64.ofNat (a_n_ % 18446744073709551616).toNat) % (8 : UInt64)).toNat : Int)) + (2 : Int)) % 18446744073709551616).toNat)).toNat : Int))) (cal (h_Digits fuel (UInt64.ofNat (q7.2.2 % 18446744073709551616).toNat)) fun y83 => asr (Nat.ble ((Str.mk [32, 85]).b.length + y83.b.length) 4611686018427387904) <| asr (Nat.ble ((Str.mk ((Str.mk [32, 85]).b ++ y83.b)).b.length + (Str.mk [32, 58, 58, 61, 32]).b.length) 4611686018427387904) <| J82 ((Str.mk ((Str.mk ((Str.mk [32, 85]).b ++ y83.b)).b ++ (Str.mk [32, 58, 58, 61, 32]).b)))) (J82 ((Str.mk ((Str.mk ((Str.mk [32, 84]).b ++ y76.b)).b ++ (Str.mk [32, 58, 58, 61, 32]).b))))) (fun q81 => asr (Nat.ble (q7.2.1.b.length + q81.b.length) 4611686018427387904) <| asr (Nat.ble ((Str.mk (q7.2.1.b ++ q81.b)).b.length + (Str.mk [78, 85, 76, 76]).b.length) 4611686018427387904) <| ck ((q7.2.2 + (1 : Int))) <| L8 ((Str.mk ((Str.mk (q7.1.b ++ (Str.mk ((Str.mk ((Str.mk [32, 84]).b ++ y76.b)).b ++ (Str.mk [32, 58, 58, 61, 32]).b)).b)).b ++ (Str.mk [78, 85, 76, 76]).b)), (Str.mk ((Str.mk (q7.2.1.b ++ q81.b)).b ++ (Str.mk [78, 85, 76, 76]).b)), (q7.2.2 + (1 : Int))))) (jp (ι := Str) (fun J90 => br a_more (asr (Nat.ble (q7.2.1.b.length + (Str.mk [32, 90, 32, 58, 58, 61, 32, 66, 79, 79, 76, 69, 65, 78]).b.length) 4611686018427387904) <| J90 ((Str.mk (q7.2.1.b ++ (Str.mk [32, 90, 32, 58, 58, 61, 32, 66, 79, 79, 76, 69, 65, 78]).b)))) (J90 (q7.2.1))) (fun q89 => jp (ι := Str) (fun J93 => br a_named (J93 ((Str.mk [77]))) (J93 ((Str.mk [78])))) (fun q92 => asr (Nat.ble ((Str.mk [77, 32, 68, 69, 70, 73, 78, 73, 84, 73, 79, 78, 83, 32, 58, 58, 61, 32, 66, 69, 71, 73, 78]).b.length + q7.1.b.length) 4611686018427387904) <| asr (Nat.ble ((Str.mk ((Str.mk [77, 32, 68, 69, 70, 73, 78, 73, 84, 73, 79, 78, 83, 32, 58, 58, 61, 32, 66, 69, 71, 73, 78]).b ++ q7.1.b)).b.length + (Str.mk [32, 69, 78, 68]).b.length) 4611686018427387904) <| cal (oghamplay_TableF (Str.mk ((Str.mk ((Str.mk [77, 32, 68, 69, 70, 73, 78, 73, 84, 73, 79, 78, 83, 32, 58, 58, 61, 32, 66, 69, 71, 73, 78]).b ++ q7.1.b)).b ++ (Str.mk [32, 69, 78, 68]).b))) fun y96 => asr (Nat.ble (q92.b.length + (Str.mk [32, 68, 69, 70, 73, 78, 73, 84, 73, 79, 78, 83, 32, 58, 58, 61, 32, 66, 69, 71, 73, 78]).b.length) 4611686018427387904) <| asr (Nat.ble ((Str.mk (q92.b ++ (Str.mk [32, 68, 69, 70, 73, 78, 73, 84, 73, 79, 78, 83, 32, 58, 58, 61, 32, 66, 69, 71, 73, 78]).b)).b.length + q89.b.length) 4611686018427387904) <| asr (Nat.ble ((Str.mk ((Str.mk (q92.b ++ (Str.mk [32, 68, 69, 70, 73, 78, 73, 84, 73, 79, 78, 83, 32, 58, 58, 61, 32, 66, 69, 71, 73, 78]).b)).b ++ q89.b)).b.length + (Str.mk [32, 69, 78, 68]).b.length) 4611686018427387904) <| cal (oghamplay_TableF (Str.mk ((Str.mk ((Str.mk (q92.b ++ (Str.mk [32, 68, 69, 70, 73, 78, 73, 84, 73, 79, 78, 83, 32, 58, 58, 61, 32, 66, 69, 71, 73, 78]).b)).b ++ q89.b)).b ++ (Str.mk [32, 69, 78, 68]).b))) fun y101 => cal (extend_May y96.1 y101.1) fun y103 => br (!a_named) (cal (law21_awakeF ) fun y104 => jp (ι := Bool) (fun J106 => br y104 (J106 (y96.2)) (J106 (false))) (fun q105 => jp (ι := Bool) (fun J109 => br q105 (J109 (y101.2)) (J109 (false))) (fun q108 => jp (ι := Bool) (fun J112 => br q108 (J112 ((decide (y103.2 = (14 : Int))))) (J112 (false))) (fun q111 => jp (ι := Bool) (fun J115 => br q111 (J115 ((decide (y103.1 = (0 : Int))))) (J115 (false))) (fun q114 => some (q114)))))) (br (decide ((((UInt64.ofNat (a_lacks % 18446744073709551616).toNat) % (UInt64.ofNat ((((1 : Int) + (((UInt64.ofNat (a_n_ % 18446744073709551616).toNat) % (8 : UInt64)).toNat : Int)) + (2 : Int)) % 18446744073709551616).toNat)).toNat : Int) < ((1 : Int) + (((UInt64.ofNat (a_n_ % 18446744073709551616).toNat) % (8 : UInt64)).toNat : Int)))) (cal (law21_awakeF ) fun y117 => jp (ι := Bool) (fun J119 => br y117 (J119 (y96.2)) (J119 (false))) (fun q118 => jp (ι := Bool) (fun J122 => br q118 (J122 (y101.2)) (J122 (false))) (fun q121 => jp (ι := Bool) (fun J125 => br q121 (J125 ((decide (y103.2 = (14 : Int))))) (J125 (false))) (fun q124 => jp (ι := Bool) (fun J128 => br q124 (J128 ((decide (y103.1 = (((UInt64.ofNat (a_lacks % 18446744073709551616).toNat) % (UInt64.ofNat ((((1 : Int) + (((UInt64.ofNat (a_n_ % 18446744073709551616).toNat) % (8 : UInt64)).toNat : Int)) + (2 : Int)) % 18446744073709551616).toNat)).toNat : Int))))) (J128 (false))) (fun q127 => some (q127)))))) (cal (law21_awakeF ) fun y130 => jp (ι := Bool) (fun J132 => br y130 (J132 (y96.2)) (J132 (false))) (fun q131 => jp (ι := Bool) (fun J135 => br q131 (J135 (y101.2)) (J135 (false))) (fun q134 => jp (ι := Bool) (fun J138 => br q134 (J138 ((decide (y103.2 = (0 : Int))))) (J138 (false))) (fun q137 => jp (ι := Bool) (fun J141 => br q137 (J141 ((decide (y103.1 = (0 : Int))))) (J141 (false))) (fun q140 => some (q140))))))))))) (((Str.mk []), (Str.mk []), (0 : Int)))
theorem law21_ExtendNamesF_eq : law21_ExtendNames = law21_ExtendNamesF := by
  funext a_n_ a_lacks a_more a_named
  unfold law21_ExtendNames law21_ExtendNamesF
  rw [oghamplay_TableF_eq, law21_awakeF_eq]
end Go.Proofs.YtajbipkppngccaaDoor


namespace Go.Proofs.YtajbipkppngccaaDoor
open Go.Sy
set_option maxRecDepth 4000
theorem names_all : ((List.range 8).all fun n => (List.range (n + 3)).all fun l => [true, false].all fun m => [true, false].all fun k => yes (law21_ExtendNamesF n l m k)) = true := by kernel_rfl
theorem names_true (n l : Int) (m k : Bool) : law21_ExtendNames n l m k = some true := by
  rw [law21_ExtendNamesF_eq]
  obtain ⟨x, hx, h1⟩ := red n 8 (by decide)
  have hx6 : x < 8 := hx
  have e0 : ((wd (x : Int) % 8).toNat : Nat) = x := by
    rw [UInt64.toNat_mod, wd_nat (by omega)]; exact Nat.mod_eq_of_lt hx6
  have ek : (wd (((1 : Int) + ((wd (x : Int) % 8).toNat : Int)) + (2 : Int))).toNat = x + 3 := by
    have : (((1 : Int) + ((wd (x : Int) % 8).toNat : Int)) + (2 : Int)) = ((x + 3 : Nat) : Int) := by rw [e0]; omega
    rw [this, wd_nat (by omega)]
  obtain ⟨z, hz, h3⟩ := red l (wd (((1 : Int) + ((wd (x : Int) % 8).toNat : Int)) + (2 : Int))) (by omega)
  rw [ek] at hz
  have e : law21_ExtendNamesF n l m k = law21_ExtendNamesF x z m k := by
    unfold law21_ExtendNamesF
    unfold wd at h1 h3
    rw [h1, h3]
  rw [e]
  have h := all_get (all_get names_all hx) hz
  have hm : m ∈ [true, false] := by cases m <;> simp
  have hk : k ∈ [true, false] := by cases k <;> simp
  exact of_yes (List.all_eq_true.1 (List.all_eq_true.1 h m hm) k hk)
end Go.Proofs.YtajbipkppngccaaDoor


namespace Go.Proofs.YtajbipkppngccaaDoor
open Go.Sy Go.Shelf Go.Lib Go.ChangeShapes Go.WideShapes Go.ChangeAt Go.RowKit

theorem extendNames_laid : Rows.extendNamesRow.laid = laidTwo := by kernel_rfl
theorem extendNames_ctr (a0 : Int) (a1 : Int) (a2 : Bool) (a3 : Bool) : Ctr Tryd.prog 8 [isv a0, isv a1, isv a2, isv a3] [] (pureP true) := law21_ExtendNames_w (names_true a0 a1 a2 a3)

theorem extendNames_witness (os : Os) {H : Type} (enc : TypeId × Value → H) :
    (OpenSpec.ofChange Rows.extendNamesSpec).preRow enc Tryd.prog Tryd.f8 [] false laidTwo ((laidWorld os).forCall (fun _ _ => 0) ⟨#[], #[.int .i64 0, .int .i64 0, .bool false, .bool false], []⟩).memory #[.int .i64 0, .int .i64 0, .bool false, .bool false] := by
  have hw : (DataW.whole enc Tryd.prog ((laidWorld os).forCall (fun _ _ => 0) ⟨#[], #[.int .i64 0, .int .i64 0, .bool false, .bool false], []⟩).memory Tryd.f8.params.toList (OpenSpec.ofChange Rows.extendNamesSpec).vars false #[Value.int .i64 0, .int .i64 0, .bool false, .bool false].toList 8).map (fun x => (x.1, x.2.1)) =
      some ([.lit (.int .i64 0), .lit (.int .i64 0), .lit (.bool false), .lit (.bool false)], []) := by kernel_rfl
  obtain ⟨⟨x1, x2, x3⟩, hx, hx1⟩ := Option.map_eq_some_iff.1 hw
  simp only [Prod.mk.injEq] at hx1
  obtain ⟨rfl, rfl⟩ := hx1
  exact OpenSpec.preRow_of_cond 8 hx (by kernel_rfl) (fun k hk => by cases hk) (by kernel_rfl) (laid_met os _)

set_option maxRecDepth 100000 in
theorem extendNames_lifted (os : Os) (started : os.Started) (H : Type) (enc : TypeId × Value → H) (F : Stop.Interp) :
    ReturnsInHanded {} Tryd.checked os 8 .any ((OpenSpec.ofChange Rows.extendNamesSpec).preRow enc Tryd.prog Tryd.f8 [] false laidTwo) (((OpenSpec.ofChange Rows.extendNamesSpec).at F).post enc Tryd.prog Tryd.f8 false true false false) :=
  law_laid (C := Tryd.checked) (B := 4) own started (by kernel_rfl) Tryd.func8
    (witness_row_atRef (enc := enc) (C := Tryd.checked) false (laidWorld os) _ rfl (by kernel_rfl) (by kernel_rfl) (by kernel_rfl) (extendNames_witness os enc))
    laidOut (by kernel_rfl) rfl rfl Tryd.underlying4
    (fun ds h => by
      match ds, h with
      | [_, _, _, _], _ => rfl)
    tabs_laid
    (fun W vs ds p hT ht hw hk => run4 (t1 := 3) (t2 := 3) (t3 := 4) (t4 := 4) hT extendNames_ctr (Opn.int Tryd.underlying3) (Opn.int Tryd.underlying3) (Opn.bool Tryd.underlying4) (Opn.bool Tryd.underlying4) ht hw hk)

theorem extendNames_said : Rows.ExtendNamesSaid :=
  OpenClaim.holds_of_cond 8 Tryd.f8 rfl rfl rfl rfl rfl rfl rfl ⟨rfl, rfl, rfl, rfl, rfl⟩ rfl rfl rfl rfl rfl (by kernel_rfl) Tryd.func8 (by kernel_rfl)
    (of_decide_eq_true (by kernel_rfl)) (by unfold Func.isWrapper; rw [if_neg (of_decide_eq_false (by kernel_rfl))]; exact ⟨rfl, rfl⟩)
    (fun os started H enc _ F0 => by rw [OpenClaim.pre_eq_preRow, extendNames_laid]; exact extendNames_lifted os started H enc F0)

theorem extendNames_card : Rows.ExtendNamesCardSaid :=
  Claim7.holds_tied_plain_at .later [] [.data, .pinned] true (true, "ee422cd9fba7c25b63a55046cc4ec7c324434a13031696ab5458ab53e62a39c5") false
    extendNames_said (fun _ h => by cases h) (by kernel_rfl) (fun _ h => by cases h) extendNames_row_tie rfl ⟨rfl, rfl⟩ (by kernel_rfl) rfl
    (fun f fn hf hfn => by
      obtain rfl : f = 8 := Option.some.inj ((show Tryd.prog.funcNamed Rows.extendNamesRow.func = some 8 by kernel_rfl).symm.trans hf) |>.symm
      obtain rfl : fn = Tryd.f8 := (Option.some.inj (Tryd.func8.symm.trans hfn)).symm
      exact ⟨by kernel_rfl, fun j t ht => by
        have e : (Tryd.f8.params.toList.all fun t => !Tryd.prog.wantsStandIn t) = true := by kernel_rfl
        have := List.all_eq_true.1 e t (List.mem_of_getElem? (i := j) (by simpa using ht))
        exact (by simpa using this : Tryd.prog.wantsStandIn t = false)⟩)
    (by kernel_rfl)
end Go.Proofs.YtajbipkppngccaaDoor


