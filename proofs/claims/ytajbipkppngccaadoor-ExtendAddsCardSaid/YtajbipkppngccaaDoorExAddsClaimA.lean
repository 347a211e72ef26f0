/- ExtendAdds: for every value of its arguments the law returns true, and each argument reads behind the call as it read before; what the tables of utf8 hold is tied to the program's text. No condition. -/
import Derived.Test.YtajbipkppngccaaDoorExA
import Derived.Test.YtajbipkppngccaaDoorExB
import Derived.Test.YtajbipkppngccaaDoorExC
import Derived.Test.YtajbipkppngccaaDoorExD
import Derived.Test.YtajbipkppngccaaDoorExE
import Derived.Test.YtajbipkppngccaaDoorExF
import Derived.Test.YtajbipkppngccaaDoorRows
import Derived.Test.YtajbipkppngccaaDoorTie
import Derived.Test.YtajbipkppngccaaDoorCards
import Derived.SevenTiedAt
set_option linter.unusedVariables false
set_option linter.unusedSimpArgs false

namespace Go.Proofs.YtajbipkppngccaaDoor
open Go.Sy
set_option maxRecDepth 4000
def law21_ExtendAdds_c1 (a_i : Int) : Option (Str) :=
  cal (h_Digits fuel (UInt64.ofNat (a_i % 18446744073709551616).toNat)) fun y1 => asr (Nat.ble ((Str.mk [102]).b.length + y1.b.length) 4611686018427387904) <| asr (Nat.ble ((Str.mk ((Str.mk [102]).b ++ y1.b)).b.length + (Str.mk [32, 91]).b.length) 4611686018427387904) <| cal (h_Digits fuel (UInt64.ofNat (a_i % 18446744073709551616).toNat)) fun y4 => asr (Nat.ble ((Str.mk ((Str.mk ((Str.mk [102]).b ++ y1.b)).b ++ (Str.mk [32, 91]).b)).b.length + y4.b.length) 4611686018427387904) <| asr (Nat.ble ((Str.mk ((Str.mk ((Str.mk ((Str.mk [102]).b ++ y1.b)).b ++ (Str.mk [32, 91]).b)).b ++ y4.b)).b.length + (Str.mk [93, 32, 73, 78, 84, 69, 71, 69, 82, 32, 79, 80, 84, 73, 79, 78, 65, 76]).b.length) 4611686018427387904) <| some ((Str.mk ((Str.mk ((Str.mk ((Str.mk ((Str.mk [102]).b ++ y1.b)).b ++ (Str.mk [32, 91]).b)).b ++ y4.b)).b ++ (Str.mk [93, 32, 73, 78, 84, 69, 71, 69, 82, 32, 79, 80, 84, 73, 79, 78, 65, 76]).b)))

def law21_ExtendAdds (a_n_ : Int) (a_added : Int) (a_what : Int) (a_dots : Bool) : Option (Bool) :=
  asr (!decide ((6 : UInt64) = 0)) <| ck ((((UInt64.ofNat (a_n_ % 18446744073709551616).toNat) % (6 : UInt64)).toNat : Int)) <| ck (((1 : Int) + (((UInt64.ofNat (a_n_ % 18446744073709551616).toNat) % (6 : UInt64)).toNat : Int))) <| asr (!decide ((4 : UInt64) = 0)) <| ck ((((UInt64.ofNat (a_added % 18446744073709551616).toNat) % (4 : UInt64)).toNat : Int)) <| lp (ι := Str × Int) (fun L7 q6 => br (decide (q6.2 < ((1 : Int) + (((UInt64.ofNat (a_n_ % 18446744073709551616).toNat) % (6 : UInt64)).toNat : Int)))) (jp (ι := Str) (fun J126 => br (decide ((0 : Int) < q6.2)) (asr (Nat.ble (q6.1.b.length + (Str.mk [44, 32]).b.length) 4611686018427387904) <| J126 ((Str.mk (q6.1.b ++ (Str.mk [44, 32]).b)))) (J126 (q6.1))) (fun q125 => cal (law21_ExtendAdds_c1 q6.2) fun y128 => asr (Nat.ble (q125.b.length + y128.b.length) 4611686018427387904) <| ck ((q6.2 + (1 : Int))) <| L7 ((Str.mk (q125.b ++ y128.b)), (q6.2 + (1 : Int))))) (jp (ι := Str) (fun J132 => br a_dots (J132 ((Str.mk [44, 32, 46, 46, 46]))) (J132 ((Str.mk [])))) (fun q131 => lp (ι := Str × Int) (fun L134 q133 => br (decide (q133.2 < (((UInt64.ofNat (a_added % 18446744073709551616).toNat) % (4 : UInt64)).toNat : Int))) (asr (Nat.ble (q133.1.b.length + (Str.mk [44, 32]).b.length) 4611686018427387904) <| ck ((((1 : Int) + (((UInt64.ofNat (a_n_ % 18446744073709551616).toNat) % (6 : UInt64)).toNat : Int)) + q133.2)) <| cal (law21_ExtendAdds_c1 (((1 : Int) + (((UInt64.ofNat (a_n_ % 18446744073709551616).toNat) % (6 : UInt64)).toNat : Int)) + q133.2)) fun y190 => asr (Nat.ble ((Str.mk (q133.1.b ++ (Str.mk [44, 32]).b)).b.length + y190.b.length) 4611686018427387904) <| ck ((q133.2 + (1 : Int))) <| L134 ((Str.mk ((Str.mk (q133.1.b ++ (Str.mk [44, 32]).b)).b ++ y190.b)), (q133.2 + (1 : Int)))) (jp (ι := Bool) (fun J194 => br a_dots (J194 (true)) (J194 ((decide ((((UInt64.ofNat (a_added % 18446744073709551616).toNat) % (4 : UInt64)).toNat : Int) = (0 : Int)))))) (fun q193 => asr (Nat.ble (q6.1.b.length + q133.1.b.length) 4611686018427387904) <| asr (!decide ((5 : UInt64) = 0)) <| jp (ι := Str × Bool) (fun J199 => br (decide (((UInt64.ofNat (a_what % 18446744073709551616).toNat) % (5 : UInt64)) = (1 : UInt64))) (cal (law21_ExtendAdds_c1 (40 : Int)) fun y200 => asr (Nat.ble (y200.b.length + (Str.mk [44, 32]).b.length) 4611686018427387904) <| asr (Nat.ble ((Str.mk (y200.b ++ (Str.mk [44, 32]).b)).b.length + q6.1.b.length) 4611686018427387904) <| asr (Nat.ble ((Str.mk ((Str.mk (y200.b ++ (Str.mk [44, 32]).b)).b ++ q6.1.b)).b.length + q133.1.b.length) 4611686018427387904) <| J199 ((Str.mk ((Str.mk ((Str.mk (y200.b ++ (Str.mk [44, 32]).b)).b ++ q6.1.b)).b ++ q133.1.b)), false)) (br (decide (((UInt64.ofNat (a_what % 18446744073709551616).toNat) % (5 : UInt64)) = (2 : UInt64))) (cal (law21_ExtendAdds_c1 (50 : Int)) fun y204 => asr (Nat.ble (y204.b.length + q133.1.b.length) 4611686018427387904) <| J199 ((Str.mk (y204.b ++ q133.1.b)), false)) (br (decide (((UInt64.ofNat (a_what % 18446744073709551616).toNat) % (5 : UInt64)) = (3 : UInt64))) (lp (ι := Str × Int) (fun L207 q206 => br (decide (q206.2 < ((1 : Int) + (((UInt64.ofNat (a_n_ % 18446744073709551616).toNat) % (6 : UInt64)).toNat : Int)))) (asr (Nat.ble (q206.1.b.length + (Str.mk [44, 32]).b.length) 4611686018427387904) <| cal (law21_ExtendAdds_c1 q206.2) fun y214 => asr (Nat.ble ((Str.mk (q206.1.b ++ (Str.mk [44, 32]).b)).b.length + y214.b.length) 4611686018427387904) <| ck ((q206.2 + (1 : Int))) <| L207 ((Str.mk ((Str.mk (q206.1.b ++ (Str.mk [44, 32]).b)).b ++ y214.b)), (q206.2 + (1 : Int)))) (asr (Nat.ble (q206.1.b.length + q133.1.b.length) 4611686018427387904) <| J199 ((Str.mk (q206.1.b ++ q133.1.b)), false))) (((Str.mk [103, 32, 91, 48, 93, 32, 73, 78, 84, 69, 71, 69, 82, 32, 79, 80, 84, 73, 79, 78, 65, 76]), (1 : Int)))) (br (decide (((UInt64.ofNat (a_what % 18446744073709551616).toNat) % (5 : UInt64)) = (4 : UInt64))) (J199 (q6.1, (!a_dots))) (J199 ((Str.mk (q6.1.b ++ q133.1.b)), q193)))))) (fun q198 => jp (ι := Str) (fun J220 => br a_dots (asr (Nat.ble (q6.1.b.length + (Str.mk [44, 32, 46, 46, 46]).b.length) 4611686018427387904) <| J220 ((Str.mk (q6.1.b ++ (Str.mk [44, 32, 46, 46, 46]).b)))) (J220 (q6.1))) (fun q219 => asr (Nat.ble ((Str.mk [77, 32, 68, 69, 70, 73, 78, 73, 84, 73, 79, 78, 83, 32, 73, 77, 80, 76, 73, 67, 73, 84, 32, 84, 65, 71, 83, 32, 58, 58, 61, 32, 66, 69, 71, 73, 78, 32, 65, 32, 58, 58, 61, 32, 83, 69, 81, 85, 69, 78, 67, 69, 32, 123, 32]).b.length + q219.b.length) 4611686018427387904) <| asr (Nat.ble ((Str.mk ((Str.mk [77, 32, 68, 69, 70, 73, 78, 73, 84, 73, 79, 78, 83, 32, 73, 77, 80, 76, 73, 67, 73, 84, 32, 84, 65, 71, 83, 32, 58, 58, 61, 32, 66, 69, 71, 73, 78, 32, 65, 32, 58, 58, 61, 32, 83, 69, 81, 85, 69, 78, 67, 69, 32, 123, 32]).b ++ q219.b)).b.length + (Str.mk [32, 125, 32, 69, 78, 68]).b.length) 4611686018427387904) <| cal (oghamplay_Table (Str.mk ((Str.mk ((Str.mk [77, 32, 68, 69, 70, 73, 78, 73, 84, 73, 79, 78, 83, 32, 73, 77, 80, 76, 73, 67, 73, 84, 32, 84, 65, 71, 83, 32, 58, 58, 61, 32, 66, 69, 71, 73, 78, 32, 65, 32, 58, 58, 61, 32, 83, 69, 81, 85, 69, 78, 67, 69, 32, 123, 32]).b ++ q219.b)).b ++ (Str.mk [32, 125, 32, 69, 78, 68]).b))) fun y224 => asr (Nat.ble ((Str.mk [77, 32, 68, 69, 70, 73, 78, 73, 84, 73, 79, 78, 83, 32, 73, 77, 80, 76, 73, 67, 73, 84, 32, 84, 65, 71, 83, 32, 58, 58, 61, 32, 66, 69, 71, 73, 78, 32, 65, 32, 58, 58, 61, 32, 83, 69, 81, 85, 69, 78, 67, 69, 32, 123, 32]).b.length + q198.1.b.length) 4611686018427387904) <| asr (Nat.ble ((Str.mk ((Str.mk [77, 32, 68, 69, 70, 73, 78, 73, 84, 73, 79, 78, 83, 32, 73, 77, 80, 76, 73, 67, 73, 84, 32, 84, 65, 71, 83, 32, 58, 58, 61, 32, 66, 69, 71, 73, 78, 32, 65, 32, 58, 58, 61, 32, 83, 69, 81, 85, 69, 78, 67, 69, 32, 123, 32]).b ++ q198.1.b)).b.length + (Str.mk [32, 125, 32, 69, 78, 68]).b.length) 4611686018427387904) <| cal (oghamplay_Table (Str.mk ((Str.mk ((Str.mk [77, 32, 68, 69, 70, 73, 78, 73, 84, 73, 79, 78, 83, 32, 73, 77, 80, 76, 73, 67, 73, 84, 32, 84, 65, 71, 83, 32, 58, 58, 61, 32, 66, 69, 71, 73, 78, 32, 65, 32, 58, 58, 61, 32, 83, 69, 81, 85, 69, 78, 67, 69, 32, 123, 32]).b ++ q198.1.b)).b ++ (Str.mk [32, 125, 32, 69, 78, 68]).b))) fun y228 => cal (extend_May y224.1 y228.1) fun y230 => cal (law21_awake ) fun y231 => jp (ι := Bool) (fun J233 => br y231 (J233 (y224.2)) (J233 (false))) (fun q232 => jp (ι := Bool) (fun J236 => br q232 (J236 (y228.2)) (J236 (false))) (fun q235 => jp (ι := Bool) (fun J239 => br q235 (J239 ((decide ((decide (y230.2 = (0 : Int))) = q198.2)))) (J239 (false))) (fun q238 => some (q238))))))))) ((q131, (0 : Int)))))) (((Str.mk []), (0 : Int)))
end Go.Proofs.YtajbipkppngccaaDoor


namespace Go.Proofs.YtajbipkppngccaaDoor
open Go.Sy
set_option maxRecDepth 4000
end Go.Proofs.YtajbipkppngccaaDoor


namespace Go.Proofs.YtajbipkppngccaaDoor
open Go.Sy
set_option maxRecDepth 4000
theorem law21_ExtendAdds_c1_w : ∀ {a_i : Int} {r : Str}, law21_ExtendAdds_c1 a_i = some r → Ctr Tryd.prog 20 [isv (a_i)] [] (fun R H => R = oneOf [isv (r)] ∧ H = []) := by
 intro a_i r h
 unfold law21_ExtendAdds_c1 at h
 refine spec_intro Tryd.func20 rfl (by decide +kernel) (by rfl) fun w0 S0 hT => ?_
 refine wsr ?_
 refine oV (v_assign rfl) ?_
 refine rnf ?_
 refine wsr ?_
 refine oV (v_move rfl) ?_
 refine oV (v_toU Tryd.underlying3 Tryd.underlying39 rfl) ?_
 refine cal_inv h fun y1 hy1 h => ?_
 refine oT (t_call (h_Digits_w fuel hy1) hT (.same rfl .nil) .nil (fun R H' hR => ?_))
 obtain ⟨rfl, rfl⟩ := hR
 refine asr_inv h fun q2 h => ?_
 refine oV (v_cat rfl rfl q2) ?_
 refine asr_inv h fun q3 h => ?_
 refine oV (v_cat rfl rfl q3) ?_
 refine oV (v_move rfl) ?_
 refine oV (v_toU Tryd.underlying3 Tryd.underlying39 rfl) ?_
 refine cal_inv h fun y4 hy4 h => ?_
 refine oT (t_call (h_Digits_w fuel hy4) hT (.same rfl .nil) .nil (fun R H' hR => ?_))
 obtain ⟨rfl, rfl⟩ := hR
 refine asr_inv h fun q5 h => ?_
 refine oV (v_cat rfl rfl q5) ?_
 refine asr_inv h fun q6 h => ?_
 refine oV (v_cat rfl rfl q6) ?_
 refine oV (v_assign rfl) ?_
 refine rnf ?_
 refine w_ret ?_
 refine ret_post (.tmp rfl .nil) .nil ?_
 obtain rfl := Option.some.inj h
 exact ⟨rfl, rfl⟩


theorem law21_ExtendAdds_w : ∀ {a_n_ : Int} {a_added : Int} {a_what : Int} {a_dots : Bool} {r : Bool}, law21_ExtendAdds a_n_ a_added a_what a_dots = some r → Ctr Tryd.prog 5 [isv (a_n_), isv (a_added), isv (a_what), isv (a_dots)] [] (fun R H => R = oneOf [isv (r)] ∧ H = []) := by
 intro a_n_ a_added a_what a_dots r h
 unfold law21_ExtendAdds at h
 refine spec_intro Tryd.func5 rfl (by decide +kernel) (by rfl) fun w0 S0 hT => ?_
 refine wsr ?_
 refine oV (v_assign rfl) ?_
 refine rnf ?_
 refine wsr ?_
 refine oV (v_move rfl) ?_
 refine oV (v_toU Tryd.underlying3 Tryd.underlying37 rfl) ?_
 refine asr_inv h fun q1 h => ?_
 refine oV (v_rem64 rfl rfl q1) ?_
 refine ck_inv h fun q2 h => ?_
 refine oV (v_u64i Tryd.underlying37 Tryd.underlying3 rfl q2) ?_
 refine ck_inv h fun q3 h => ?_
 refine oV (v_add rfl rfl q3) ?_
 refine oV (v_move rfl) ?_
 refine oV (v_toU Tryd.underlying3 Tryd.underlying37 rfl) ?_
 refine asr_inv h fun q4 h => ?_
 refine oV (v_rem64 rfl rfl q4) ?_
 refine ck_inv h fun q5 h => ?_
 refine oV (v_u64i Tryd.underlying37 Tryd.underlying3 rfl q5) ?_
 refine oV (v_assign rfl) ?_
 refine oV (v_assign rfl) ?_
 refine rnf ?_
 refine wsr ?_
 refine oV (v_assign rfl) ?_
 refine rnf ?_
 refine wsr ?_
 refine oV (v_assign rfl) ?_
 refine oV (v_assign rfl) ?_
 refine rnf ?_
 refine w_seq ?_
 refine wsr ?_
 refine oV (v_assign rfl) ?_
 refine rnf ?_
 refine w_block ?_
 refine w_lp (ι := Str × Int) (γ := Unit) (fun q6 g6 => [(10, isv (q6.1)), (12, isv (q6.2))]) (fun q6 g6 => []) h () (mod_cons (j := 10) rfl (fun _ _ h => h) (mod_cons (j := 12) rfl (fun _ _ h => h) mod_nil)) .nil (fun L7 q6 g6 Q242 h hL7 eL7 rL7 => ?_)
 refine w_seq ?_
 refine wsr ?_
 refine oV (v_move rfl) ?_
 refine oV (v_move rfl) ?_
 refine oV (v_lss rfl rfl) ?_
 refine rnf ?_
 refine w_condM h rfl (fun _ h => ?_) (fun _ h => ?_)
 ·
  refine wkf ?_
  refine w_seq ?_
  refine w_block ?_
  refine w_seq ?_
  refine wsr ?_
  refine oV (v_move rfl) ?_
  refine oV (v_gtr rfl rfl) ?_
  refine rnf ?_
  refine w_J (ι := Str) (γ := Unit) (fun q125 g125 => [(10, isv (q125))]) (fun q125 g125 => []) .nil h (fun q125 g125 h => ?_) (fun J126 h hJ126 => ?_)
  ·
   refine w_region ?_
   refine oV (v_move rfl) ?_
   refine oV (v_move rfl) ?_
   refine oV (v_move rfl) ?_
   refine cal_inv h fun y128 hy128 h => ?_
   refine oT (t_callC rfl (.same rfl .nil) (law21_ExtendAdds_c1_w hy128) hT .nil (fun R H' hR => ?_))
   obtain ⟨rfl, rfl⟩ := hR
   refine asr_inv h fun q129 h => ?_
   refine oV (v_cat rfl rfl q129) ?_
   refine oV (v_assign rfl) ?_
   refine rl_nil ?_
   refine fin_block ?_
   refine fin_nxt ?_
   refine w_region ?_
   refine oV (v_move rfl) ?_
   refine ck_inv h fun q130 h => ?_
   refine oV (v_add rfl rfl q130) ?_
   refine oV (v_assign rfl) ?_
   refine rl_nil ?_
   exact hL7 _ () h _ (join_imp 17 rfl rfl (mod_cons (j := 10) rfl (fun _ _ h => h) (mod_cons (j := 12) rfl (fun _ _ h => h) mod_nil)) .nil)
  ·
   refine w_condM h rfl (fun _ h => ?_) (fun _ h => ?_)
   ·
    refine w_region ?_
    refine oV (v_move rfl) ?_
    refine asr_inv h fun q127 h => ?_
    refine oV (v_cat rfl rfl q127) ?_
    refine oV (v_assign rfl) ?_
    refine rl_nil ?_
    exact hJ126 _ () h _ (join_imp 3 rfl rfl (mod_cons (j := 10) rfl (fun _ _ h => h) mod_nil) .nil)
   ·
    refine w_skip ?_
    exact hJ126 _ () h _ (join_imp 0 rfl rfl (mod_cons (j := 10) rfl (fun _ _ h => h) mod_nil) .nil)
 ·
  refine w_exit ?_
  refine exi_nxt ?_
  refine eL7 _ _ ?_
  refine exi_block ?_
  refine fin_nxt ?_
  refine wsr ?_
  refine oV (v_assign rfl) ?_
  refine rnf ?_
  refine w_seq ?_
  refine wsr ?_
  refine oV (v_move rfl) ?_
  refine rnf ?_
  refine w_J (ι := Str) (γ := Unit) (fun q131 g131 => [(13, isv (q131))]) (fun q131 g131 => []) .nil h (fun q131 g131 h => ?_) (fun J132 h hJ132 => ?_)
  ·
   refine w_seq ?_
   refine wsr ?_
   refine oV (v_assign rfl) ?_
   refine rnf ?_
   refine w_block ?_
   refine w_lp (ι := Str × Int) (γ := Unit) (fun q133 g133 => [(13, isv (q133.1)), (14, isv (q133.2))]) (fun q133 g133 => []) h () (mod_cons (j := 13) rfl (fun _ _ h => h) (mod_cons (j := 14) rfl (fun _ _ h => h) mod_nil)) .nil (fun L134 q133 g133 Q241 h hL134 eL134 rL134 => ?_)
   refine w_seq ?_
   refine wsr ?_
   refine oV (v_move rfl) ?_
   refine oV (v_move rfl) ?_
   refine oV (v_lss rfl rfl) ?_
   refine rnf ?_
   refine w_condM h rfl (fun _ h => ?_) (fun _ h => ?_)
   ·
    refine wkf ?_
    refine w_seq ?_
    refine w_block ?_
    refine w_region ?_
    refine oV (v_move rfl) ?_
    refine asr_inv h fun q188 h => ?_
    refine oV (v_cat rfl rfl q188) ?_
    refine oV (v_move rfl) ?_
    refine oV (v_move rfl) ?_
    refine oV (v_move rfl) ?_
    refine ck_inv h fun q189 h => ?_
    refine oV (v_add rfl rfl q189) ?_
    refine cal_inv h fun y190 hy190 h => ?_
    refine oT (t_callC rfl (.same rfl .nil) (law21_ExtendAdds_c1_w hy190) hT .nil (fun R H' hR => ?_))
    obtain ⟨rfl, rfl⟩ := hR
    refine asr_inv h fun q191 h => ?_
    refine oV (v_cat rfl rfl q191) ?_
    refine oV (v_assign rfl) ?_
    refine rl_nil ?_
    refine fin_block ?_
    refine fin_nxt ?_
    refine w_region ?_
    refine oV (v_move rfl) ?_
    refine ck_inv h fun q192 h => ?_
    refine oV (v_add rfl rfl q192) ?_
    refine oV (v_assign rfl) ?_
    refine rl_nil ?_
    exact hL134 _ () h _ (join_imp 17 rfl rfl (mod_cons (j := 13) rfl (fun _ _ h => h) (mod_cons (j := 14) rfl (fun _ _ h => h) mod_nil)) .nil)
   ·
    refine w_exit ?_
    refine exi_nxt ?_
    refine eL134 _ _ ?_
    refine exi_block ?_
    refine fin_nxt ?_
    refine wsr ?_
    refine oV (v_move rfl) ?_
    refine oV (v_move rfl) ?_
    refine rl_j (ι := Bool) (γ := Unit) (fun q193 g193 => [(64, isv (q193))]) (fun q193 g193 => []) .nil h 3 rfl (fun q193 g193 h => ?_) (fun J194 h hJ194 => ?_)
    ·
     refine oV (v_assign rfl) ?_
     refine rnf ?_
     refine wsr ?_
     refine oV (v_move rfl) ?_
     refine oV (v_move rfl) ?_
     refine asr_inv h fun q196 h => ?_
     refine oV (v_cat rfl rfl q196) ?_
     refine oV (v_assign rfl) ?_
     refine rnf ?_
     refine w_seq ?_
     refine wsr ?_
     refine oV (v_move rfl) ?_
     refine oV (v_toU Tryd.underlying3 Tryd.underlying37 rfl) ?_
     refine asr_inv h fun q197 h => ?_
     refine oV (v_rem64 rfl rfl q197) ?_
     refine rnf ?_
     refine w_J (ι := Str × Bool) (γ := Unit) (fun q198 g198 => [(11, isv (q198.1)), (15, isv (q198.2))]) (fun q198 g198 => []) .nil h (fun q198 g198 h => ?_) (fun J199 h hJ199 => ?_)
     ·
      refine w_seq ?_
      refine wsr ?_
      refine oV (v_move rfl) ?_
      refine rnf ?_
      refine w_J (ι := Str) (γ := Unit) (fun q219 g219 => [(10, isv (q219))]) (fun q219 g219 => []) .nil h (fun q219 g219 h => ?_) (fun J220 h hJ220 => ?_)
      ·
       refine wsr ?_
       refine oV (v_move rfl) ?_
       refine asr_inv h fun q222 h => ?_
       refine oV (v_cat rfl rfl q222) ?_
       refine asr_inv h fun q223 h => ?_
       refine oV (v_cat rfl rfl q223) ?_
       refine cal_inv h fun y224 hy224 h => ?_
       refine oT (t_call (oghamplay_Table_w hy224) hT (.same rfl .nil) .nil (fun R H' hR => ?_))
       obtain ⟨rfl, rfl⟩ := hR
       refine oV (v_move rfl) ?_
       refine oV (v_extract rfl rfl) ?_
       refine oV (v_extract rfl rfl) ?_
       refine oT (t_alloc _ ze26 fun b225 => ?_)
       refine oT (t_storeC (y' := (y224.1 : GTab)) ty26 rfl rfl (fun _ _ h => h) .here rfl ?_)
       refine rl_upd (upd_imm 17 .here rfl) ?_
       refine oV (v_assign rfl) ?_
       refine rnf ?_
       refine wsr ?_
       refine oV (v_move rfl) ?_
       refine asr_inv h fun q226 h => ?_
       refine oV (v_cat rfl rfl q226) ?_
       refine asr_inv h fun q227 h => ?_
       refine oV (v_cat rfl rfl q227) ?_
       refine cal_inv h fun y228 hy228 h => ?_
       refine oT (t_call (oghamplay_Table_w hy228) hT (.same rfl .nil) .nil (fun R H' hR => ?_))
       obtain ⟨rfl, rfl⟩ := hR
       refine oV (v_move rfl) ?_
       refine oV (v_extract rfl rfl) ?_
       refine oV (v_extract rfl rfl) ?_
       refine oT (t_alloc _ ze26 fun b229 => ?_)
       refine oT (t_storeC (y' := (y228.1 : GTab)) ty26 rfl rfl (fun _ _ h => h) .here rfl ?_)
       refine rl_upd (upd_imm 19 .here rfl) ?_
       refine oV (v_assign rfl) ?_
       refine rnf ?_
       refine wsr ?_
       refine oV (v_loadI ty26 rfl) ?_
       refine oV (v_loadI ty26 rfl) ?_
       refine cal_inv h fun y230 hy230 h => ?_
       refine oT (t_call (extend_May_w hy230) hT (.same rfl (.same rfl .nil)) .nil (fun R H' hR => ?_))
       obtain ⟨rfl, rfl⟩ := hR
       refine oV (v_move rfl) ?_
       refine oV (v_extract rfl rfl) ?_
       refine oV (v_extract rfl rfl) ?_
       refine oV (v_assign rfl) ?_
       refine oV (v_assign rfl) ?_
       refine rnf ?_
       refine wsr ?_
       refine cal_inv h fun y231 hy231 h => ?_
       refine oT (t_call (law21_awake_w hy231) hT .nil .nil (fun R H' hR => ?_))
       obtain ⟨rfl, rfl⟩ := hR
       refine oV (v_move rfl) ?_
       refine rl_j (ι := Bool) (γ := Unit) (fun q232 g232 => [(133, isv (q232))]) (fun q232 g232 => []) .nil h 2 rfl (fun q232 g232 h => ?_) (fun J233 h hJ233 => ?_)
       ·
        refine oV (v_move rfl) ?_
        refine rl_j (ι := Bool) (γ := Unit) (fun q235 g235 => [(136, isv (q235))]) (fun q235 g235 => []) .nil h 2 rfl (fun q235 g235 h => ?_) (fun J236 h hJ236 => ?_)
        ·
         refine oV (v_move rfl) ?_
         refine rl_j (ι := Bool) (γ := Unit) (fun q238 g238 => [(142, isv (q238))]) (fun q238 g238 => []) .nil h 5 rfl (fun q238 g238 h => ?_) (fun J239 h hJ239 => ?_)
         ·
          refine oV (v_assign rfl) ?_
          refine rnf ?_
          refine w_ret ?_
          refine ret_post (.tmp rfl .nil) .nil ?_
          obtain rfl := Option.some.inj h
          exact ⟨rfl, rfl⟩
         ·
          refine rl_condM (j := 137) h rfl (fun g240 h => ?_) (fun g240 h => ?_)
          ·
           refine op_take rfl rfl (dj := 137) rfl g240 (OpV.t (v_move rfl) ?_)
           refine op_take rfl rfl (dj := 137) rfl g240 (OpV.t (v_eql rfl rfl) ?_)
           refine op_take rfl rfl (dj := 137) rfl g240 (OpV.t (v_move rfl) ?_)
           refine op_take rfl rfl (dj := 137) rfl g240 (OpV.t (v_eqA eq4 rfl rfl) ?_)
           refine oV (v_pick_t rfl g240 rfl) ?_
           exact hJ239 _ () h _ (join_imp 5 rfl rfl (mod_cons (j := 142) rfl (fun _ _ h => h) mod_nil) .nil)
          ·
           refine op_pass rfl (dj := 137) rfl g240 ?_
           refine op_pass rfl (dj := 137) rfl g240 ?_
           refine op_pass rfl (dj := 137) rfl g240 ?_
           refine op_pass rfl (dj := 137) rfl g240 ?_
           refine oV (v_pick_f rfl g240 rfl) ?_
           exact hJ239 _ () h _ (join_imp 5 rfl rfl (mod_cons (j := 142) rfl (fun _ _ h => h) mod_nil) .nil)
        ·
         refine rl_condM (j := 134) h rfl (fun g237 h => ?_) (fun g237 h => ?_)
         ·
          refine op_take rfl rfl (dj := 134) rfl g237 (OpV.t (v_move rfl) ?_)
          refine oV (v_pick_t rfl g237 rfl) ?_
          exact hJ236 _ () h _ (join_imp 2 rfl rfl (mod_cons (j := 136) rfl (fun _ _ h => h) mod_nil) .nil)
         ·
          refine op_pass rfl (dj := 134) rfl g237 ?_
          refine oV (v_pick_f rfl g237 rfl) ?_
          exact hJ236 _ () h _ (join_imp 2 rfl rfl (mod_cons (j := 136) rfl (fun _ _ h => h) mod_nil) .nil)
       ·
        refine rl_condM (j := 131) h rfl (fun g234 h => ?_) (fun g234 h => ?_)
        ·
         refine op_take rfl rfl (dj := 131) rfl g234 (OpV.t (v_move rfl) ?_)
         refine oV (v_pick_t rfl g234 rfl) ?_
         exact hJ233 _ () h _ (join_imp 2 rfl rfl (mod_cons (j := 133) rfl (fun _ _ h => h) mod_nil) .nil)
        ·
         refine op_pass rfl (dj := 131) rfl g234 ?_
         refine oV (v_pick_f rfl g234 rfl) ?_
         exact hJ233 _ () h _ (join_imp 2 rfl rfl (mod_cons (j := 133) rfl (fun _ _ h => h) mod_nil) .nil)
      ·
       refine w_condM h rfl (fun _ h => ?_) (fun _ h => ?_)
       ·
        refine w_region ?_
        refine oV (v_move rfl) ?_
        refine asr_inv h fun q221 h => ?_
        refine oV (v_cat rfl rfl q221) ?_
        refine oV (v_assign rfl) ?_
        refine rl_nil ?_
        exact hJ220 _ () h _ (join_imp 3 rfl rfl (mod_cons (j := 10) rfl (fun _ _ h => h) mod_nil) .nil)
       ·
        refine w_skip ?_
        exact hJ220 _ () h _ (join_imp 0 rfl rfl (mod_cons (j := 10) rfl (fun _ _ h => h) mod_nil) .nil)
     ·
      refine w_block ?_
      refine wsr ?_
      refine oV (v_eql64 rfl rfl) ?_
      refine oV (v_assign rfl) ?_
      refine rnf ?_
      refine w_condM h rfl (fun _ h => ?_) (fun _ h => ?_)
      ·
       refine wsr ?_
       refine oV (v_move rfl) ?_
       refine cal_inv h fun y200 hy200 h => ?_
       refine oT (t_callC rfl (.same rfl .nil) (law21_ExtendAdds_c1_w hy200) hT .nil (fun R H' hR => ?_))
       obtain ⟨rfl, rfl⟩ := hR
       refine asr_inv h fun q201 h => ?_
       refine oV (v_cat rfl rfl q201) ?_
       refine oV (v_move rfl) ?_
       refine asr_inv h fun q202 h => ?_
       refine oV (v_cat rfl rfl q202) ?_
       refine oV (v_move rfl) ?_
       refine asr_inv h fun q203 h => ?_
       refine oV (v_cat rfl rfl q203) ?_
       refine oV (v_assign rfl) ?_
       refine rnf ?_
       refine w_region ?_
       refine oV (v_assign rfl) ?_
       refine rl_nil ?_
       refine fin_block ?_
       exact hJ199 _ () h _ (join_imp 11 rfl rfl (mod_cons (j := 11) rfl (fun _ _ h => h) (mod_cons (j := 15) rfl (fun _ _ h => h) mod_nil)) .nil)
      ·
       refine wsr ?_
       refine oV (v_eql64 rfl rfl) ?_
       refine oV (v_assign rfl) ?_
       refine rnf ?_
       refine w_condM h rfl (fun _ h => ?_) (fun _ h => ?_)
       ·
        refine wsr ?_
        refine oV (v_move rfl) ?_
        refine cal_inv h fun y204 hy204 h => ?_
        refine oT (t_callC rfl (.same rfl .nil) (law21_ExtendAdds_c1_w hy204) hT .nil (fun R H' hR => ?_))
        obtain ⟨rfl, rfl⟩ := hR
        refine oV (v_move rfl) ?_
        refine asr_inv h fun q205 h => ?_
        refine oV (v_cat rfl rfl q205) ?_
        refine oV (v_assign rfl) ?_
        refine rnf ?_
        refine w_region ?_
        refine oV (v_assign rfl) ?_
        refine rl_nil ?_
        refine fin_block ?_
        exact hJ199 _ () h _ (join_imp 10 rfl rfl (mod_cons (j := 11) rfl (fun _ _ h => h) (mod_cons (j := 15) rfl (fun _ _ h => h) mod_nil)) .nil)
       ·
        refine wsr ?_
        refine oV (v_eql64 rfl rfl) ?_
        refine oV (v_assign rfl) ?_
        refine rnf ?_
        refine w_condM h rfl (fun _ h => ?_) (fun _ h => ?_)
        ·
         refine wsr ?_
         refine oV (v_assign rfl) ?_
         refine rnf ?_
         refine w_seq ?_
         refine wsr ?_
         refine oV (v_assign rfl) ?_
         refine rnf ?_
         refine w_block ?_
         refine w_lp (ι := Str × Int) (γ := Unit) (fun q206 g206 => [(11, isv (q206.1)), (16, isv (q206.2))]) (fun q206 g206 => []) h () (mod_cons (j := 11) rfl (fun _ _ h => h) (mod_cons (j := 16) rfl (fun _ _ h => h) mod_nil)) .nil (fun L207 q206 g206 Q218 h hL207 eL207 rL207 => ?_)
         refine w_seq ?_
         refine wsr ?_
         refine oV (v_move rfl) ?_
         refine oV (v_move rfl) ?_
         refine oV (v_lss rfl rfl) ?_
         refine rnf ?_
         refine w_condM h rfl (fun _ h => ?_) (fun _ h => ?_)
         ·
          refine wkf ?_
          refine w_seq ?_
          refine w_block ?_
          refine w_region ?_
          refine oV (v_move rfl) ?_
          refine asr_inv h fun q213 h => ?_
          refine oV (v_cat rfl rfl q213) ?_
          refine oV (v_move rfl) ?_
          refine oV (v_move rfl) ?_
          refine cal_inv h fun y214 hy214 h => ?_
          refine oT (t_callC rfl (.same rfl .nil) (law21_ExtendAdds_c1_w hy214) hT .nil (fun R H' hR => ?_))
          obtain ⟨rfl, rfl⟩ := hR
          refine asr_inv h fun q215 h => ?_
          refine oV (v_cat rfl rfl q215) ?_
          refine oV (v_assign rfl) ?_
          refine rl_nil ?_
          refine fin_block ?_
          refine fin_nxt ?_
          refine w_region ?_
          refine oV (v_move rfl) ?_
          refine ck_inv h fun q216 h => ?_
          refine oV (v_add rfl rfl q216) ?_
          refine oV (v_assign rfl) ?_
          refine rl_nil ?_
          exact hL207 _ () h _ (join_imp 15 rfl rfl (mod_cons (j := 11) rfl (fun _ _ h => h) (mod_cons (j := 16) rfl (fun _ _ h => h) mod_nil)) .nil)
         ·
          refine w_exit ?_
          refine exi_nxt ?_
          refine eL207 _ _ ?_
          refine exi_block ?_
          refine fin_nxt ?_
          refine wsr ?_
          refine oV (v_move rfl) ?_
          refine oV (v_move rfl) ?_
          refine asr_inv h fun q217 h => ?_
          refine oV (v_cat rfl rfl q217) ?_
          refine oV (v_assign rfl) ?_
          refine rnf ?_
          refine w_region ?_
          refine oV (v_assign rfl) ?_
          refine rl_nil ?_
          refine fin_block ?_
          exact hJ199 _ () h _ (join_imp 18 rfl rfl (mod_cons (j := 11) rfl (fun _ _ h => h) (mod_cons (j := 15) rfl (fun _ _ h => h) mod_nil)) .nil)
        ·
         refine wsr ?_
         refine oV (v_eql64 rfl rfl) ?_
         refine oV (v_assign rfl) ?_
         refine rnf ?_
         refine w_condM h rfl (fun _ h => ?_) (fun _ h => ?_)
         ·
          refine wsr ?_
          refine oV (v_move rfl) ?_
          refine oV (v_assign rfl) ?_
          refine rnf ?_
          refine w_region ?_
          refine oV (v_move rfl) ?_
          refine oV (v_not rfl) ?_
          refine oV (v_assign rfl) ?_
          refine rl_nil ?_
          refine fin_block ?_
          exact hJ199 _ () h _ (join_imp 13 rfl rfl (mod_cons (j := 11) rfl (fun _ _ h => h) (mod_cons (j := 15) rfl (fun _ _ h => h) mod_nil)) .nil)
         ·
          refine w_skip ?_
          refine fin_block ?_
          exact hJ199 _ () h _ (join_imp 8 rfl rfl (mod_cons (j := 11) rfl (fun _ _ h => h) (mod_cons (j := 15) rfl (fun _ _ h => h) mod_nil)) .nil)
    ·
     refine rl_condM (j := 61) h rfl (fun g195 h => ?_) (fun g195 h => ?_)
     ·
      refine op_pass rfl (dj := 61) rfl g195 ?_
      refine op_pass rfl (dj := 61) rfl g195 ?_
      refine oV (v_pick_t rfl g195 rfl) ?_
      exact hJ194 _ () h _ (join_imp 3 rfl rfl (mod_cons (j := 64) rfl (fun _ _ h => h) mod_nil) .nil)
     ·
      refine op_take rfl rfl (dj := 61) rfl g195 (OpV.t (v_move rfl) ?_)
      refine op_take rfl rfl (dj := 61) rfl g195 (OpV.t (v_eql rfl rfl) ?_)
      refine oV (v_pick_f rfl g195 rfl) ?_
      exact hJ194 _ () h _ (join_imp 3 rfl rfl (mod_cons (j := 64) rfl (fun _ _ h => h) mod_nil) .nil)
  ·
   refine w_condM h rfl (fun _ h => ?_) (fun _ h => ?_)
   ·
    refine w_region ?_
    refine oV (v_assign rfl) ?_
    refine rl_nil ?_
    exact hJ132 _ () h _ (join_imp 1 rfl rfl (mod_cons (j := 13) rfl (fun _ _ h => h) mod_nil) .nil)
   ·
    refine w_skip ?_
    exact hJ132 _ () h _ (join_imp 0 rfl rfl (mod_cons (j := 13) rfl (fun _ _ h => h) mod_nil) .nil)

end Go.Proofs.YtajbipkppngccaaDoor


namespace Go.Proofs.YtajbipkppngccaaDoor
open Go.Sy
set_option maxRecDepth 4000
def law21_ExtendAddsF (a_n_ : Int) (a_added : Int) (a_what : Int) (a_dots : Bool) : Option (Bool) :=
  asr (!decide ((6 : UInt64) = 0)) <| ck ((((UInt64.ofNat (a_n_ % 18446744073709551616).toNat) % (6 : UInt64)).toNat : Int)) <| ck (((1 : Int) + (((UInt64.ofNat (a_n_ % 18446744073709551616).toNat) % (6 : UInt64)).toNat : Int))) <| asr (!decide ((4 : UInt64) = 0)) <| ck ((((UInt64.ofNat (a_added % 18446744073709551616).toNat) % (4 : UInt64)).toNat : Int)) <| lp (ι := Str × Int) (fun L7 q6 => br (decide (q6.2 < ((1 : Int) + (((UInt64.ofNat (a_n_ % 18446744073709551616).toNat) % (6 : UInt64)).toNat : Int)))) (jp (ι := Str) (fun J126 => br (decide ((0 : Int) < q6.2)) (asr (Nat.ble (q6.1.b.length + (Str.mk [44, 32]).b.length) 4611686018427387904) <| J126 ((Str.mk (q6.1.b ++ (Str.mk [44, 32]).b)))) (J126 (q6.1))) (fun q125 => cal (law21_ExtendAdds_c1 q6.2) fun y128 => asr (Nat.ble (q125.b.length + y128.b.length) 4611686018427387904) <| ck ((q6.2 + (1 : Int))) <| L7 ((Str.mk (q125.b ++ y128.b)), (q6.2 + (1 : Int))))) (jp (ι := Str) (fun J132 => br a_dots (J132 ((Str.mk [44, 32, 46, 46, 46]))) (J132 ((Str.mk [])))) (fun q131 => lp (ι := Str × Int) (fun L134 q133 => br (decide (q133.2 < (((UInt64.ofNat (a_added % 18446744073709551616).toNat) % (4 : UInt64)).toNat : Int))) (asr (Nat.ble (q133.1.b.length + (Str.mk [44, 32]).b.length) 4611686018427387904) <| ck ((((1 : Int) + (((UInt64.ofNat (a_n_ % 18446744073709551616).toNat) % (6 : UInt64)).toNat : Int)) + q133.2)) <| cal (law21_ExtendAdds_c1 (((1 : Int) + (((UInt64.ofNat (a_n_ % 18446744073709551616).toNat) % (6 : UInt64)).toNat : Int)) + q133.2)) fun y190 => asr (Nat.ble ((Str.mk (q133.1.b ++ (Str.mk [44, 32]).b)).b.length + y190.b.length) 4611686018427387904) <| ck ((q133.2 + (1 : Int))) <| L134 ((Str.mk ((Str.mk (q133.1.b ++ (Str.mk [44, 32]).b)).b ++ y190.b)), (q133.2 + (1 : Int)))) (jp (ι := Bool) (fun J194 => br a_dots (J194 (true)) (J194 ((decide ((((UInt64.ofNat (a_added % 18446744073709551616).toNat) % (4 : UInt64)).toNat : Int) = (0 : Int)))))) (fun q193 => asr (Nat.ble (q6.1.b.length + q133.1.b.length) 4611686018427387904) <| asr (!decide ((5 : UInt64) = 0)) <| jp (ι := Str × Bool) (fun J199 => br (decide (((UInt64.ofNat (a_what % 18446744073709551616).toNat) % (5 : UInt64)) = (1 : UInt64))) (cal (law21_ExtendAdds_c1 (40 : Int)) fun y200 => asr (Nat.ble (y200.b.length + (Str.mk [44, 32]).b.length) 4611686018427387904) <| asr (Nat.ble ((Str.mk (y200.b ++ (Str.mk [44, 32]).b)).b.length + q6.1.b.length) 4611686018427387904) <| asr (Nat.ble ((Str.mk ((Str.mk (y200.b ++ (Str.mk [44, 32]).b)).b ++ q6.1.b)).b.length + q133.1.b.length) 4611686018427387904) <| J199 ((Str.mk ((Str.mk ((Str.mk (y200.b ++ (Str.mk [44, 32]).b)).b ++ q6.1.b)).b ++ q133.1.b)), false)) (br (decide (((UInt64.ofNat (a_what % 18446744073709551616).toNat) % (5 : UInt64)) = (2 : UInt64))) (cal (law21_ExtendAdds_c1 (50 : Int)) fun y204 => asr (Nat.ble (y204.b.length + q133.1.b.length) 4611686018427387904) <| J199 ((Str.mk (y204.b ++ q133.1.b)), false)) (br (decide (((UInt64.ofNat (a_what % 18446744073709551616).toNat) % (5 : UInt64)) = (3 : UInt64))) (lp (ι := Str × Int) (fun L207 q206 => br (decide (q206.2 < ((1 : Int) + (((UInt64.ofNat (a_n_ % 18446744073709551616).toNat) % (6 : UInt64)).toNat : Int)))) (asr (Nat.ble (q206.1.b.length + (Str.mk [44, 32]).b.length) 4611686018427387904) <| cal (law21_ExtendAdds_c1 q206.2) fun y214 => asr (Nat.ble ((Str.mk (q206.1.b ++ (Str.mk [44, 32]).b)).b.length + y214.b.length) 4611686018427387904) <| ck ((q206.2 + (1 : Int))) <| L207 ((Str.mk ((Str.mk (q206.1.b ++ (Str.mk [44, 32]).b)).b ++ y214.b)), (q206.2 + (1 : Int)))) (asr (Nat.ble (q206.1.b.length + q133.1.b.length) 4611686018427387904) <| J199 ((Str.mk (q206.1.b ++ q133.1.b)), false))) (((Str.mk [103, 32, 91, 48, 93, 32, 73, 78, 84, 69, 71, 69, 82, 32, 79, 80, 84, 73, 79, 78, 65, 76]), (1 : Int)))) (br (decide (((UInt64.ofNat (a_what % 18446744073709551616).toNat) % (5 : UInt64)) = (4 : UInt64))) (J199 (q6.1, (!a_dots))) (J199 ((Str.mk (q6.1.b ++ q133.1.b)), q193)))))) (fun q198 => jp (ι := Str) (fun J220 => br a_dots (asr (Nat.ble (q6.1.b.length + (Str.mk [44, 32, 46, 46, 46]).b.length) 4611686018427387904) <| J220 ((Str.mk (q6.1.b ++ (Str.mk [44, 32, 46, 46, 46]).b)))) (J220 (q6.1))) (fun q219 => asr (Nat.ble ((Str.mk [77, 32, 68, 69, 70, 73, 78, 73, 84, 73, 79, 78, 83, 32, 73, 77, 80, 76, 73, 67, 73, 84, 32, 84, 65, 71, 83, 32, 58, 58, 61, 32, 66, 69, 71, 73, 78, 32, 65, 32, 58, 58, 61, 32, 83, 69, 81, 85, 69, 78, 67, 69, 32, 123, 32]).b.length + q219.b.length) 4611686018427387904) <| asr (Nat.ble ((Str.mk ((Str.mk [77, 32, 68, 69, 70, 73, 78, 73, 84, 73, 79, 78, 83, 32, 73, 77, 80, 76, 73, 67, 73, 84, 32, 84, 65, 71, 83, 32, 58, 58, 61, 32, 66, 69, 71, 73, 78, 32, 65, 32, 58, 58, 61, 32, 83, 69, 81, 85, 69, 78, 67, 69, 32, 123, 32]).b ++ q219.b)).b.length + (Str.mk [32, 125, 32, 69, 78, 68]).b.length) 4611686018427387904) <| cal (oghamplay_TableF (Str.mk ((Str.mk ((Str.mk [77, 32, 68, 69, 70, 73, 78, 73, 84, 73, 79, 78, 83, 32, 73, 77, 80, 76, 73, 67, 73, 84, 32, 84, 65, 71, 83, 32, 58, 58, 61, 32, 66, 69, 71, 73, 78, 32, 65, 32, 58, 58, 61, 32, 83, 69, 81, 85, 69, 78, 67, 69, 32, 123, 32]).b ++ q219.b)).b ++ (Str.mk [32, 125, 32, 69, 78, 68]).b))) fun y224 => asr (Nat.ble ((Str.mk [77, 32, 68, 69, 70, 73, 78, 73, 84, 73, 79, 78, 83, 32, 73, 77, 80, 76, 73, 67, 73, 84, 32, 84, 65, 71, 83, 32, 58, 58, 61, 32, 66, 69, 71, 73, 78, 32, 65, 32, 58, 58, 61, 32, 83, 69, 81, 85, 69, 78, 67, 69, 32, 123, 32]).b.length + q198.1.b.length) 4611686018427387904) <| asr (Nat.ble ((Str.mk ((Str.mk [77, 32, 68, 69, 70, 73, 78, 73, 84, 73, 79, 78, 83, 32, 73, 77, 80, 76, 73, 67, 73, 84, 32, 84, 65, 71, 83, 32, 58, 58, 61, 32, 66, 69, 71, 73, 78, 32, 65, 32, 58, 58, 61, 32, 83, 69, 81, 85, 69, 78, 67, 69, 32, 123, 32]).b ++ q198.1.b)).b.length + (Str.mk [32, 125, 32, 69, 78, 68]).b.length) 4611686018427387904) <| cal (oghamplay_TableF (Str.mk ((Str.mk ((Str.mk [77, 32, 68, 69, 70, 73, 78, 73, 84, 73, 79, 78, 83, 32, 73, 77, 80, 76, 73, 67, 73, 84, 32, 84, 65, 71, 83, 32, 58, 58, 61, 32, 66, 69, 71, 73, 78, 32, 65, 32, 58, 58, 61, 32, 83, 69, 81, 85, 69, 78, 67, 69, 32, 123, 32]).b ++ q198.1.b)).b ++ (Str.mk [32, 125, 32, 69, 78, 68]).b))) fun y228 => cal (extend_May y224.1 y228.1) fun y230 => cal (law21_awakeF ) fun y231 => jp (ι := Bool) (fun J233 => br y231 (J233 (y224.2)) (J233 (false))) (fun q232 => jp (ι := Bool) (fun J236 => br q232 (J236 (y228.2)) (J236 (false))) (fun q235 => jp (ι := Bool) (fun J239 => br q235 (J239 ((decide ((decide (y230.2 = (0 : Int))) = q198.2)))) (J239 (false))) (fun q238 => some (q238))))))))) ((q131, (0 : Int)))))) (((Str.mk []), (0 : Int)))
theorem law21_ExtendAddsF_eq : law21_ExtendAdds = law21_ExtendAddsF := by
  funext a_n_ a_added a_what a_dots
  unfold law21_ExtendAdds law21_ExtendAddsF
  rw [oghamplay_TableF_eq, law21_awakeF_eq]
end Go.Proofs.YtajbipkppngccaaDoor


namespace Go.Proofs.YtajbipkppngccaaDoor
open Go.Sy
set_option maxRecDepth 4000
theorem adds_t : ((List.range 6).all fun n => (List.range 4).all fun a => (List.range 5).all fun w => yes (law21_ExtendAddsF n a w true)) = true := by kernel_rfl
theorem adds_f : ((List.range 6).all fun n => (List.range 4).all fun a => (List.range 5).all fun w => yes (law21_ExtendAddsF n a w false)) = true := by kernel_rfl
theorem adds_true (n a w : Int) (d : Bool) : law21_ExtendAdds n a w d = some true := by
  rw [law21_ExtendAddsF_eq]
  obtain ⟨x, hx, h1⟩ := red n 6 (by decide)
  obtain ⟨y, hy, h2⟩ := red a 4 (by decide)
  obtain ⟨z, hz, h3⟩ := red w 5 (by decide)
  have e : law21_ExtendAddsF n a w d = law21_ExtendAddsF x y z d := by
    unfold law21_ExtendAddsF
    unfold wd at h1 h2 h3
    rw [h1, h2, h3]
  rw [e]
  cases d with
  | true => exact of_yes (all_get (all_get (all_get adds_t hx) hy) hz)
  | false => exact of_yes (all_get (all_get (all_get adds_f hx) hy) hz)
end Go.Proofs.YtajbipkppngccaaDoor


namespace Go.Proofs.YtajbipkppngccaaDoor
open Go.Sy Go.Shelf Go.Lib Go.ChangeShapes Go.WideShapes Go.ChangeAt Go.RowKit

theorem extendAdds_laid : Rows.extendAddsRow.laid = laidTwo := by kernel_rfl
theorem extendAdds_ctr (a0 : Int) (a1 : Int) (a2 : Int) (a3 : Bool) : Ctr Tryd.prog 5 [isv a0, isv a1, isv a2, isv a3] [] (pureP true) := law21_ExtendAdds_w (adds_true a0 a1 a2 a3)

theorem extendAdds_witness (os : Os) {H : Type} (enc : TypeId × Value → H) :
    (OpenSpec.ofChange Rows.extendAddsSpec).preRow enc Tryd.prog Tryd.f5 [] false laidTwo ((laidWorld os).forCall (fun _ _ => 0) ⟨#[], #[.int .i64 0, .int .i64 0, .int .i64 0, .bool false], []⟩).memory #[.int .i64 0, .int .i64 0, .int .i64 0, .bool false] := by
  have hw : (DataW.whole enc Tryd.prog ((laidWorld os).forCall (fun _ _ => 0) ⟨#[], #[.int .i64 0, .int .i64 0, .int .i64 0, .bool false], []⟩).memory Tryd.f5.params.toList (OpenSpec.ofChange Rows.extendAddsSpec).vars false #[Value.int .i64 0, .int .i64 0, .int .i64 0, .bool false].toList 8).map (fun x => (x.1, x.2.1)) =
      some ([.lit (.int .i64 0), .lit (.int .i64 0), .lit (.int .i64 0), .lit (.bool false)], []) := by kernel_rfl
  obtain ⟨⟨x1, x2, x3⟩, hx, hx1⟩ := Option.map_eq_some_iff.1 hw
  simp only [Prod.mk.injEq] at hx1
  obtain ⟨rfl, rfl⟩ := hx1
  exact OpenSpec.preRow_of_cond 8 hx (by kernel_rfl) (fun k hk => by cases hk) (by kernel_rfl) (laid_met os _)

set_option maxRecDepth 100000 in
theorem extendAdds_lifted (os : Os) (started : os.Started) (H : Type) (enc : TypeId × Value → H) (F : Stop.Interp) :
    ReturnsInHanded {} Tryd.checked os 5 .any ((OpenSpec.ofChange Rows.extendAddsSpec).preRow enc Tryd.prog Tryd.f5 [] false laidTwo) (((OpenSpec.ofChange Rows.extendAddsSpec).at F).post enc Tryd.prog Tryd.f5 false true false false) :=
  law_laid (C := Tryd.checked) (B := 4) own started (by kernel_rfl) Tryd.func5
    (witness_row_atRef (enc := enc) (C := Tryd.checked) false (laidWorld os) _ rfl (by kernel_rfl) (by kernel_rfl) (by kernel_rfl) (extendAdds_witness os enc))
    laidOut (by kernel_rfl) rfl rfl Tryd.underlying4
    (fun ds h => by
      match ds, h with
      | [_, _, _, _], _ => rfl)
    tabs_laid
    (fun W vs ds p hT ht hw hk => run4 (t1 := 3) (t2 := 3) (t3 := 3) (t4 := 4) hT extendAdds_ctr (Opn.int Tryd.underlying3) (Opn.int Tryd.underlying3) (Opn.int Tryd.underlying3) (Opn.bool Tryd.underlying4) ht hw hk)

theorem extendAdds_said : Rows.ExtendAddsSaid :=
  OpenClaim.holds_of_cond 5 Tryd.f5 rfl rfl rfl rfl rfl rfl rfl ⟨rfl, rfl, rfl, rfl, rfl⟩ rfl rfl rfl rfl rfl (by kernel_rfl) Tryd.func5 (by kernel_rfl)
    (of_decide_eq_true (by kernel_rfl)) (by unfold Func.isWrapper; rw [if_neg (of_decide_eq_false (by kernel_rfl))]; exact ⟨rfl, rfl⟩)
    (fun os started H enc _ F0 => by rw [OpenClaim.pre_eq_preRow, extendAdds_laid]; exact extendAdds_lifted os started H enc F0)

theorem extendAdds_card : Rows.ExtendAddsCardSaid :=
  Claim7.holds_tied_plain_at .later [] [.data, .pinned] true (true, "ee422cd9fba7c25b63a55046cc4ec7c324434a13031696ab5458ab53e62a39c5") false
    extendAdds_said (fun _ h => by cases h) (by kernel_rfl) (fun _ h => by cases h) extendAdds_row_tie rfl ⟨rfl, rfl⟩ (by kernel_rfl) rfl
    (fun f fn hf hfn => by
      obtain rfl : f = 5 := Option.some.inj ((show Tryd.prog.funcNamed Rows.extendAddsRow.func = some 5 by kernel_rfl).symm.trans hf) |>.symm
      obtain rfl : fn = Tryd.f5 := (Option.some.inj (Tryd.func5.symm.trans hfn)).symm
      exact ⟨by kernel_rfl, fun j t ht => by
        have e : (Tryd.f5.params.toList.all fun t => !Tryd.prog.wantsStandIn t) = true := by kernel_rfl
        have := List.all_eq_true.1 e t (List.mem_of_getElem? (i := j) (by simpa using ht))
        exact (by simpa using this : Tryd.prog.wantsStandIn t = false)⟩)
    (by kernel_rfl)
end Go.Proofs.YtajbipkppngccaaDoor


