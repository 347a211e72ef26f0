/- ProjectAdds: whatever its arguments are, the law's model answers true. No condition. -/
import Derived.Test.YtnnijoepfgnlfaaGreatDoorPaA
import Derived.Test.YtnnijoepfgnlfaaGreatDoorPaB
set_option linter.unusedVariables false
set_option linter.unusedSimpArgs false

namespace Go.Proofs.YtnnijoepfgnlfaaGreatDoor
open Go.Sy
set_option maxRecDepth 4000
def law14_version (a_n_ : Int) : Option (Str) :=
  lp (ι := Str × Str × Str × Int) (fun L2 q1 => br (decide (q1.2.2.2 < a_n_)) (ck ((q1.2.2.2 + (1 : Int))) <| cal (h_Digits fuel (UInt64.ofNat ((q1.2.2.2 + (1 : Int)) % 18446744073709551616).toNat)) fun y25 => asr (Nat.ble (q1.1.b.length + (Str.mk [44, 32, 102]).b.length) 4611686018427387904) <| asr (Nat.ble ((Str.mk (q1.1.b ++ (Str.mk [44, 32, 102]).b)).b.length + y25.b.length) 4611686018427387904) <| asr (Nat.ble ((Str.mk ((Str.mk (q1.1.b ++ (Str.mk [44, 32, 102]).b)).b ++ y25.b)).b.length + (Str.mk [32, 91]).b.length) 4611686018427387904) <| asr (Nat.ble ((Str.mk ((Str.mk ((Str.mk (q1.1.b ++ (Str.mk [44, 32, 102]).b)).b ++ y25.b)).b ++ (Str.mk [32, 91]).b)).b.length + y25.b.length) 4611686018427387904) <| asr (Nat.ble ((Str.mk ((Str.mk ((Str.mk ((Str.mk (q1.1.b ++ (Str.mk [44, 32, 102]).b)).b ++ y25.b)).b ++ (Str.mk [32, 91]).b)).b ++ y25.b)).b.length + (Str.mk [93, 32, 73, 78, 84, 69, 71, 69, 82]).b.length) 4611686018427387904) <| asr (Nat.ble (q1.2.1.b.length + (Str.mk [44, 32, 99]).b.length) 4611686018427387904) <| asr (Nat.ble ((Str.mk (q1.2.1.b ++ (Str.mk [44, 32, 99]).b)).b.length + y25.b.length) 4611686018427387904) <| asr (Nat.ble ((Str.mk ((Str.mk (q1.2.1.b ++ (Str.mk [44, 32, 99]).b)).b ++ y25.b)).b.length + (Str.mk [32, 91]).b.length) 4611686018427387904) <| asr (Nat.ble ((Str.mk ((Str.mk ((Str.mk (q1.2.1.b ++ (Str.mk [44, 32, 99]).b)).b ++ y25.b)).b ++ (Str.mk [32, 91]).b)).b.length + y25.b.length) 4611686018427387904) <| asr (Nat.ble ((Str.mk ((Str.mk ((Str.mk ((Str.mk (q1.2.1.b ++ (Str.mk [44, 32, 99]).b)).b ++ y25.b)).b ++ (Str.mk [32, 91]).b)).b ++ y25.b)).b.length + (Str.mk [93, 32, 73, 78, 84, 69, 71, 69, 82]).b.length) 4611686018427387904) <| asr (Nat.ble (q1.2.2.1.b.length + (Str.mk [44, 32, 101]).b.length) 4611686018427387904) <| asr (Nat.ble ((Str.mk (q1.2.2.1.b ++ (Str.mk [44, 32, 101]).b)).b.length + y25.b.length) 4611686018427387904) <| ck ((q1.2.2.2 + (1 : Int))) <| L2 ((Str.mk ((Str.mk ((Str.mk ((Str.mk ((Str.mk (q1.1.b ++ (Str.mk [44, 32, 102]).b)).b ++ y25.b)).b ++ (Str.mk [32, 91]).b)).b ++ y25.b)).b ++ (Str.mk [93, 32, 73, 78, 84, 69, 71, 69, 82]).b)), (Str.mk ((Str.mk ((Str.mk ((Str.mk ((Str.mk (q1.2.1.b ++ (Str.mk [44, 32, 99]).b)).b ++ y25.b)).b ++ (Str.mk [32, 91]).b)).b ++ y25.b)).b ++ (Str.mk [93, 32, 73, 78, 84, 69, 71, 69, 82]).b)), (Str.mk ((Str.mk (q1.2.2.1.b ++ (Str.mk [44, 32, 101]).b)).b ++ y25.b)), (q1.2.2.2 + (1 : Int)))) (asr (Nat.ble ((Str.mk [77, 32, 68, 69, 70, 73, 78, 73, 84, 73, 79, 78, 83, 32, 73, 77, 80, 76, 73, 67, 73, 84, 32, 84, 65, 71, 83, 32, 58, 58, 61, 32, 66, 69, 71, 73, 78, 32, 70, 32, 58, 58, 61, 32, 83, 69, 81, 85, 69, 78, 67, 69, 32, 123, 32, 97, 32, 91, 48, 93, 32, 73, 78, 84, 69, 71, 69, 82, 44, 32, 46, 46, 46]).b.length + q1.1.b.length) 4611686018427387904) <| asr (Nat.ble ((Str.mk ((Str.mk [77, 32, 68, 69, 70, 73, 78, 73, 84, 73, 79, 78, 83, 32, 73, 77, 80, 76, 73, 67, 73, 84, 32, 84, 65, 71, 83, 32, 58, 58, 61, 32, 66, 69, 71, 73, 78, 32, 70, 32, 58, 58, 61, 32, 83, 69, 81, 85, 69, 78, 67, 69, 32, 123, 32, 97, 32, 91, 48, 93, 32, 73, 78, 84, 69, 71, 69, 82, 44, 32, 46, 46, 46]).b ++ q1.1.b)).b.length + (Str.mk [32, 125, 32, 67, 32, 58, 58, 61, 32, 67, 72, 79, 73, 67, 69, 32, 123, 32, 97, 32, 91, 48, 93, 32, 73, 78, 84, 69, 71, 69, 82, 44, 32, 46, 46, 46]).b.length) 4611686018427387904) <| asr (Nat.ble ((Str.mk ((Str.mk ((Str.mk [77, 32, 68, 69, 70, 73, 78, 73, 84, 73, 79, 78, 83, 32, 73, 77, 80, 76, 73, 67, 73, 84, 32, 84, 65, 71, 83, 32, 58, 58, 61, 32, 66, 69, 71, 73, 78, 32, 70, 32, 58, 58, 61, 32, 83, 69, 81, 85, 69, 78, 67, 69, 32, 123, 32, 97, 32, 91, 48, 93, 32, 73, 78, 84, 69, 71, 69, 82, 44, 32, 46, 46, 46]).b ++ q1.1.b)).b ++ (Str.mk [32, 125, 32, 67, 32, 58, 58, 61, 32, 67, 72, 79, 73, 67, 69, 32, 123, 32, 97, 32, 91, 48, 93, 32, 73, 78, 84, 69, 71, 69, 82, 44, 32, 46, 46, 46]).b)).b.length + q1.2.1.b.length) 4611686018427387904) <| asr (Nat.ble ((Str.mk ((Str.mk ((Str.mk ((Str.mk [77, 32, 68, 69, 70, 73, 78, 73, 84, 73, 79, 78, 83, 32, 73, 77, 80, 76, 73, 67, 73, 84, 32, 84, 65, 71, 83, 32, 58, 58, 61, 32, 66, 69, 71, 73, 78, 32, 70, 32, 58, 58, 61, 32, 83, 69, 81, 85, 69, 78, 67, 69, 32, 123, 32, 97, 32, 91, 48, 93, 32, 73, 78, 84, 69, 71, 69, 82, 44, 32, 46, 46, 46]).b ++ q1.1.b)).b ++ (Str.mk [32, 125, 32, 67, 32, 58, 58, 61, 32, 67, 72, 79, 73, 67, 69, 32, 123, 32, 97, 32, 91, 48, 93, 32, 73, 78, 84, 69, 71, 69, 82, 44, 32, 46, 46, 46]).b)).b ++ q1.2.1.b)).b.length + (Str.mk [32, 125, 32, 69, 32, 58, 58, 61, 32, 69, 78, 85, 77, 69, 82, 65, 84, 69, 68, 32, 123, 32, 97, 44, 32, 46, 46, 46]).b.length) 4611686018427387904) <| asr (Nat.ble ((Str.mk ((Str.mk ((Str.mk ((Str.mk ((Str.mk [77, 32, 68, 69, 70, 73, 78, 73, 84, 73, 79, 78, 83, 32, 73, 77, 80, 76, 73, 67, 73, 84, 32, 84, 65, 71, 83, 32, 58, 58, 61, 32, 66, 69, 71, 73, 78, 32, 70, 32, 58, 58, 61, 32, 83, 69, 81, 85, 69, 78, 67, 69, 32, 123, 32, 97, 32, 91, 48, 93, 32, 73, 78, 84, 69, 71, 69, 82, 44, 32, 46, 46, 46]).b ++ q1.1.b)).b ++ (Str.mk [32, 125, 32, 67, 32, 58, 58, 61, 32, 67, 72, 79, 73, 67, 69, 32, 123, 32, 97, 32, 91, 48, 93, 32, 73, 78, 84, 69, 71, 69, 82, 44, 32, 46, 46, 46]).b)).b ++ q1.2.1.b)).b ++ (Str.mk [32, 125, 32, 69, 32, 58, 58, 61, 32, 69, 78, 85, 77, 69, 82, 65, 84, 69, 68, 32, 123, 32, 97, 44, 32, 46, 46, 46]).b)).b.length + q1.2.2.1.b.length) 4611686018427387904) <| asr (Nat.ble ((Str.mk ((Str.mk ((Str.mk ((Str.mk ((Str.mk ((Str.mk [77, 32, 68, 69, 70, 73, 78, 73, 84, 73, 79, 78, 83, 32, 73, 77, 80, 76, 73, 67, 73, 84, 32, 84, 65, 71, 83, 32, 58, 58, 61, 32, 66, 69, 71, 73, 78, 32, 70, 32, 58, 58, 61, 32, 83, 69, 81, 85, 69, 78, 67, 69, 32, 123, 32, 97, 32, 91, 48, 93, 32, 73, 78, 84, 69, 71, 69, 82, 44, 32, 46, 46, 46]).b ++ q1.1.b)).b ++ (Str.mk [32, 125, 32, 67, 32, 58, 58, 61, 32, 67, 72, 79, 73, 67, 69, 32, 123, 32, 97, 32, 91, 48, 93, 32, 73, 78, 84, 69, 71, 69, 82, 44, 32, 46, 46, 46]).b)).b ++ q1.2.1.b)).b ++ (Str.mk [32, 125, 32, 69, 32, 58, 58, 61, 32, 69, 78, 85, 77, 69, 82, 65, 84, 69, 68, 32, 123, 32, 97, 44, 32, 46, 46, 46]).b)).b ++ q1.2.2.1.b)).b.length + (Str.mk [32, 125, 32, 69, 78, 68]).b.length) 4611686018427387904) <| some ((Str.mk ((Str.mk ((Str.mk ((Str.mk ((Str.mk ((Str.mk ((Str.mk [77, 32, 68, 69, 70, 73, 78, 73, 84, 73, 79, 78, 83, 32, 73, 77, 80, 76, 73, 67, 73, 84, 32, 84, 65, 71, 83, 32, 58, 58, 61, 32, 66, 69, 71, 73, 78, 32, 70, 32, 58, 58, 61, 32, 83, 69, 81, 85, 69, 78, 67, 69, 32, 123, 32, 97, 32, 91, 48, 93, 32, 73, 78, 84, 69, 71, 69, 82, 44, 32, 46, 46, 46]).b ++ q1.1.b)).b ++ (Str.mk [32, 125, 32, 67, 32, 58, 58, 61, 32, 67, 72, 79, 73, 67, 69, 32, 123, 32, 97, 32, 91, 48, 93, 32, 73, 78, 84, 69, 71, 69, 82, 44, 32, 46, 46, 46]).b)).b ++ q1.2.1.b)).b ++ (Str.mk [32, 125, 32, 69, 32, 58, 58, 61, 32, 69, 78, 85, 77, 69, 82, 65, 84, 69, 68, 32, 123, 32, 97, 44, 32, 46, 46, 46]).b)).b ++ q1.2.2.1.b)).b ++ (Str.mk [32, 125, 32, 69, 78, 68]).b))))) (((Str.mk []), (Str.mk []), (Str.mk []), (0 : Int)))

def law14_ProjectAdds (a_from_ : Int) (a_to : Int) (a_which : Int) (a_there : (List Bool)) : Option (Bool) :=
  asr (!decide ((7 : UInt64) = 0)) <| ck ((((UInt64.ofNat (a_from_ % 18446744073709551616).toNat) % (7 : UInt64)).toNat : Int)) <| asr (!decide ((7 : UInt64) = 0)) <| ck ((((UInt64.ofNat (a_to % 18446744073709551616).toNat) % (7 : UInt64)).toNat : Int)) <| cal (law14_version (((UInt64.ofNat (a_from_ % 18446744073709551616).toNat) % (7 : UInt64)).toNat : Int)) fun y5 => cal (oghamplay_Table y5) fun y6 => cal (law14_version (((UInt64.ofNat (a_to % 18446744073709551616).toNat) % (7 : UInt64)).toNat : Int)) fun y8 => cal (oghamplay_Table y8) fun y9 => jp (ι := Bool) (fun J12 => br (!y6.2) (J12 (true)) (J12 ((!y9.2)))) (fun q11 => br q11 (some (false)) (lp (ι := Int × Val × Val) (fun L23 q22 => br (decide (q22.1 < (max (((UInt64.ofNat (a_from_ % 18446744073709551616).toNat) % (7 : UInt64)).toNat : Int) (((UInt64.ofNat (a_to % 18446744073709551616).toNat) % (7 : UInt64)).toNat : Int)))) (jp (ι := Val × Val) (fun J103 => jp (ι := Bool) (fun J106 => br (decide (q22.1 < (a_there.length : Int))) (cal (getI a_there q22.1) fun y108 => J106 (y108)) (J106 (false))) (fun q105 => jp (ι := Bool) (fun J110 => br q105 (J110 ((decide (q22.1 < (((UInt64.ofNat (a_from_ % 18446744073709551616).toNat) % (7 : UInt64)).toNat : Int))))) (J110 (false))) (fun q109 => jp (ι := Val) (fun J113 => br q109 (J113 ((Val.mk (2 : Int) q22.1 ([] : (List UInt8)) ([] : (List Val)) (0 : Int) ([] : (List Raw))))) (J113 ((Val.mk (0 : Int) (0 : Int) ([] : (List UInt8)) ([] : (List Val)) (0 : Int) ([] : (List Raw)))))) (fun q112 => jp (ι := Val) (fun J115 => br (decide (q22.1 < (((UInt64.ofNat (a_from_ % 18446744073709551616).toNat) % (7 : UInt64)).toNat : Int))) (asr (Nat.ble (q22.2.2.l.length + ([q112] : (List Val)).length) 68719476736) <| J115 ((Val.mk q22.2.2.kind q22.2.2.n q22.2.2.b (q22.2.2.l ++ ([q112] : (List Val))) q22.2.2.rule q22.2.2.more))) (J115 (q22.2.2))) (fun q114 => br (decide (q22.1 < (((UInt64.ofNat (a_to % 18446744073709551616).toNat) % (7 : UInt64)).toNat : Int))) (asr (Nat.ble (q22.2.1.l.length + ([q112] : (List Val)).length) 68719476736) <| J103 ((Val.mk q22.2.1.kind q22.2.1.n q22.2.1.b (q22.2.1.l ++ ([q112] : (List Val))) q22.2.1.rule q22.2.1.more), q114)) (J103 (q22.2.1, q114))))))) (fun q102 => ck ((q22.1 + (1 : Int))) <| L23 ((q22.1 + (1 : Int)), q102.1, q102.2))) (jp (ι := Val × Int) (fun J124 => cal (getI y6.1.roots (0 : Int)) fun y127 => cal (getI y9.1.roots (0 : Int)) fun y128 => cal (project_Value y6.1 y127 y9.1 y128 q22.2.2) fun y129 => J124 (y129.1, y129.2)) (fun q123 => ck (((((UInt64.ofNat (a_from_ % 18446744073709551616).toNat) % (7 : UInt64)).toNat : Int) + (1 : Int))) <| asr (!decide ((UInt64.ofNat (((((UInt64.ofNat (a_from_ % 18446744073709551616).toNat) % (7 : UInt64)).toNat : Int) + (1 : Int)) % 18446744073709551616).toNat) = 0)) <| ck ((((UInt64.ofNat (a_which % 18446744073709551616).toNat) % (UInt64.ofNat (((((UInt64.ofNat (a_from_ % 18446744073709551616).toNat) % (7 : UInt64)).toNat : Int) + (1 : Int)) % 18446744073709551616).toNat)).toNat : Int)) <| jp (ι := Val × Int) (fun J138 => cal (getI y6.1.roots (1 : Int)) fun y141 => cal (getI y9.1.roots (1 : Int)) fun y142 => cal (project_Value y6.1 y141 y9.1 y142 (Val.mk (9 : Int) (((UInt64.ofNat (a_which % 18446744073709551616).toNat) % (UInt64.ofNat (((((UInt64.ofNat (a_from_ % 18446744073709551616).toNat) % (7 : UInt64)).toNat : Int) + (1 : Int)) % 18446744073709551616).toNat)).toNat : Int) ([] : (List UInt8)) ([(Val.mk (2 : Int) (7 : Int) ([] : (List UInt8)) ([] : (List Val)) (0 : Int) ([] : (List Raw)))] : (List Val)) (0 : Int) ([] : (List Raw)))) fun y143 => J138 (y143.1, y143.2)) (fun q137 => jp (ι := Val × Int) (fun J148 => cal (getI y6.1.roots (2 : Int)) fun y151 => cal (getI y9.1.roots (2 : Int)) fun y152 => cal (project_Value y6.1 y151 y9.1 y152 (Val.mk (3 : Int) (((UInt64.ofNat (a_which % 18446744073709551616).toNat) % (UInt64.ofNat (((((UInt64.ofNat (a_from_ % 18446744073709551616).toNat) % (7 : UInt64)).toNat : Int) + (1 : Int)) % 18446744073709551616).toNat)).toNat : Int) ([] : (List UInt8)) ([] : (List Val)) (0 : Int) ([] : (List Raw)))) fun y153 => J148 (y153.1, y153.2)) (fun q147 => jp (ι := Val × Val) (fun J157 => br (decide ((((UInt64.ofNat (a_to % 18446744073709551616).toNat) % (7 : UInt64)).toNat : Int) < (((UInt64.ofNat (a_which % 18446744073709551616).toNat) % (UInt64.ofNat (((((UInt64.ofNat (a_from_ % 18446744073709551616).toNat) % (7 : UInt64)).toNat : Int) + (1 : Int)) % 18446744073709551616).toNat)).toNat : Int))) (J157 ((Val.mk (12 : Int) (0 : Int) ([] : (List UInt8)) ([] : (List Val)) (0 : Int) ([] : (List Raw))), (Val.mk (12 : Int) (0 : Int) ([] : (List UInt8)) ([] : (List Val)) (0 : Int) ([] : (List Raw))))) (J157 ((Val.mk (3 : Int) (((UInt64.ofNat (a_which % 18446744073709551616).toNat) % (UInt64.ofNat (((((UInt64.ofNat (a_from_ % 18446744073709551616).toNat) % (7 : UInt64)).toNat : Int) + (1 : Int)) % 18446744073709551616).toNat)).toNat : Int) ([] : (List UInt8)) ([] : (List Val)) (0 : Int) ([] : (List Raw))), (Val.mk (9 : Int) (((UInt64.ofNat (a_which % 18446744073709551616).toNat) % (UInt64.ofNat (((((UInt64.ofNat (a_from_ % 18446744073709551616).toNat) % (7 : UInt64)).toNat : Int) + (1 : Int)) % 18446744073709551616).toNat)).toNat : Int) ([] : (List UInt8)) ([(Val.mk (2 : Int) (7 : Int) ([] : (List UInt8)) ([] : (List Val)) (0 : Int) ([] : (List Raw)))] : (List Val)) (0 : Int) ([] : (List Raw)))))) (fun q156 => cal (law14_awake ) fun y158 => jp (ι := Bool) (fun J160 => br y158 (J160 ((decide (q123.2 = (0 : Int))))) (J160 (false))) (fun q159 => jp (ι := Bool) (fun J163 => br q159 (J163 ((decide (q137.2 = (0 : Int))))) (J163 (false))) (fun q162 => jp (ι := Bool) (fun J166 => br q162 (J166 ((decide (q147.2 = (0 : Int))))) (J166 (false))) (fun q165 => jp (ι := Bool) (fun J169 => br q165 (cal (h_Value fuel q123.1 q22.2.1) fun y171 => J169 (y171)) (J169 (false))) (fun q168 => jp (ι := Bool) (fun J173 => br q168 (cal (h_Value fuel q137.1 q156.2) fun y175 => J173 (y175)) (J173 (false))) (fun q172 => jp (ι := Bool) (fun J177 => br q172 (cal (h_Value fuel q147.1 q156.1) fun y179 => J177 (y179)) (J177 (false))) (fun q176 => some (q176))))))))))))) (((0 : Int), (Val.mk (7 : Int) (0 : Int) ([] : (List UInt8)) ([(Val.mk (2 : Int) (50 : Int) ([] : (List UInt8)) ([] : (List Val)) (0 : Int) ([] : (List Raw)))] : (List Val)) (0 : Int) ([] : (List Raw))), (Val.mk (7 : Int) (0 : Int) ([] : (List UInt8)) ([(Val.mk (2 : Int) (50 : Int) ([] : (List UInt8)) ([] : (List Val)) (0 : Int) ([] : (List Raw)))] : (List Val)) (0 : Int) ([] : (List Raw)))))))
end Go.Proofs.YtnnijoepfgnlfaaGreatDoor


namespace Go.Proofs.YtnnijoepfgnlfaaGreatDoor
open Go.Sy
set_option maxRecDepth 8000
set_option linter.unusedVariables false
theorem awake14 : law14_awake = some true := by
  unfold law14_awake
  rw [oghamplay_TableF_eq]; kernel_rfl
def verS0 : Str := ⟨[77, 32, 68, 69, 70, 73, 78, 73, 84, 73, 79, 78, 83, 32, 73, 77, 80, 76, 73, 67, 73, 84, 32, 84, 65, 71, 83, 32, 58, 58, 61, 32, 66, 69, 71, 73, 78, 32, 70, 32, 58, 58, 61, 32, 83, 69, 81, 85, 69, 78, 67, 69, 32, 123, 32, 97, 32, 91, 48, 93, 32, 73, 78, 84, 69, 71, 69, 82, 44, 32, 46, 46, 46, 32, 125, 32, 67, 32, 58, 58, 61, 32, 67, 72, 79, 73, 67, 69, 32, 123, 32, 97, 32, 91, 48, 93, 32, 73, 78, 84, 69, 71, 69, 82, 44, 32, 46, 46, 46, 32, 125, 32, 69, 32, 58, 58, 61, 32, 69, 78, 85, 77, 69, 82, 65, 84, 69, 68, 32, 123, 32, 97, 44, 32, 46, 46, 46, 32, 125, 32, 69, 78, 68]⟩
def verT0 : GTab := GTab.mk ⟨[77]⟩ [⟨[70]⟩, ⟨[67]⟩, ⟨[69]⟩] [0, 2, 4] [⟨7, [⟨0, 16⟩], ⟨false, false, false, false, 0, 0⟩, [], [⟨⟨[97]⟩, 1, false, false, ⟨0, 0, [], [], 0, []⟩, 0⟩], 1, true, 0⟩, ⟨2, [⟨2, 0⟩], ⟨false, false, false, false, 0, 0⟩, [], [], 0, false, 0⟩, ⟨9, [], ⟨false, false, false, false, 0, 0⟩, [], [⟨⟨[97]⟩, 3, false, false, ⟨0, 0, [], [], 0, []⟩, 0⟩], 1, true, 0⟩, ⟨2, [⟨2, 0⟩], ⟨false, false, false, false, 0, 0⟩, [], [], 0, false, 0⟩, ⟨3, [⟨0, 10⟩], ⟨false, false, false, false, 0, 0⟩, [⟨⟨[97]⟩, 0, false⟩], [], 1, true, 0⟩]
theorem ver0 : law14_version 0 = some verS0 := by kernel_rfl
theorem verB0 : oghamplay_Table verS0 = some (verT0, true) := by
  rw [oghamplay_TableF_eq]; kernel_rfl
def verS1 : Str := ⟨[77, 32, 68, 69, 70, 73, 78, 73, 84, 73, 79, 78, 83, 32, 73, 77, 80, 76, 73, 67, 73, 84, 32, 84, 65, 71, 83, 32, 58, 58, 61, 32, 66, 69, 71, 73, 78, 32, 70, 32, 58, 58, 61, 32, 83, 69, 81, 85, 69, 78, 67, 69, 32, 123, 32, 97, 32, 91, 48, 93, 32, 73, 78, 84, 69, 71, 69, 82, 44, 32, 46, 46, 46, 44, 32, 102, 49, 32, 91, 49, 93, 32, 73, 78, 84, 69, 71, 69, 82, 32, 125, 32, 67, 32, 58, 58, 61, 32, 67, 72, 79, 73, 67, 69, 32, 123, 32, 97, 32, 91, 48, 93, 32, 73, 78, 84, 69, 71, 69, 82, 44, 32, 46, 46, 46, 44, 32, 99, 49, 32, 91, 49, 93, 32, 73, 78, 84, 69, 71, 69, 82, 32, 125, 32, 69, 32, 58, 58, 61, 32, 69, 78, 85, 77, 69, 82, 65, 84, 69, 68, 32, 123, 32, 97, 44, 32, 46, 46, 46, 44, 32, 101, 49, 32, 125, 32, 69, 78, 68]⟩
def verT1 : GTab := GTab.mk ⟨[77]⟩ [⟨[70]⟩, ⟨[67]⟩, ⟨[69]⟩] [0, 3, 6] [⟨7, [⟨0, 16⟩], ⟨false, false, false, false, 0, 0⟩, [], [⟨⟨[97]⟩, 1, false, false, ⟨0, 0, [], [], 0, []⟩, 0⟩, ⟨⟨[102, 49]⟩, 2, false, false, ⟨0, 0, [], [], 0, []⟩, 0⟩], 1, true, 0⟩, ⟨2, [⟨2, 0⟩], ⟨false, false, false, false, 0, 0⟩, [], [], 0, false, 0⟩, ⟨2, [⟨2, 1⟩], ⟨false, false, false, false, 0, 0⟩, [], [], 0, false, 0⟩, ⟨9, [], ⟨false, false, false, false, 0, 0⟩, [], [⟨⟨[97]⟩, 4, false, false, ⟨0, 0, [], [], 0, []⟩, 0⟩, ⟨⟨[99, 49]⟩, 5, false, false, ⟨0, 0, [], [], 0, []⟩, 0⟩], 1, true, 0⟩, ⟨2, [⟨2, 0⟩], ⟨false, false, false, false, 0, 0⟩, [], [], 0, false, 0⟩, ⟨2, [⟨2, 1⟩], ⟨false, false, false, false, 0, 0⟩, [], [], 0, false, 0⟩, ⟨3, [⟨0, 10⟩], ⟨false, false, false, false, 0, 0⟩, [⟨⟨[97]⟩, 0, false⟩, ⟨⟨[101, 49]⟩, 1, false⟩], [], 1, true, 0⟩]
theorem ver1 : law14_version 1 = some verS1 := by kernel_rfl
theorem verB1 : oghamplay_Table verS1 = some (verT1, true) := by
  rw [oghamplay_TableF_eq]; kernel_rfl
def verS2 : Str := ⟨[77, 32, 68, 69, 70, 73, 78, 73, 84, 73, 79, 78, 83, 32, 73, 77, 80, 76, 73, 67, 73, 84, 32, 84, 65, 71, 83, 32, 58, 58, 61, 32, 66, 69, 71, 73, 78, 32, 70, 32, 58, 58, 61, 32, 83, 69, 81, 85, 69, 78, 67, 69, 32, 123, 32, 97, 32, 91, 48, 93, 32, 73, 78, 84, 69, 71, 69, 82, 44, 32, 46, 46, 46, 44, 32, 102, 49, 32, 91, 49, 93, 32, 73, 78, 84, 69, 71, 69, 82, 44, 32, 102, 50, 32, 91, 50, 93, 32, 73, 78, 84, 69, 71, 69, 82, 32, 125, 32, 67, 32, 58, 58, 61, 32, 67, 72, 79, 73, 67, 69, 32, 123, 32, 97, 32, 91, 48, 93, 32, 73, 78, 84, 69, 71, 69, 82, 44, 32, 46, 46, 46, 44, 32, 99, 49, 32, 91, 49, 93, 32, 73, 78, 84, 69, 71, 69, 82, 44, 32, 99, 50, 32, 91, 50, 93, 32, 73, 78, 84, 69, 71, 69, 82, 32, 125, 32, 69, 32, 58, 58, 61, 32, 69, 78, 85, 77, 69, 82, 65, 84, 69, 68, 32, 123, 32, 97, 44, 32, 46, 46, 46, 44, 32, 101, 49, 44, 32, 101, 50, 32, 125, 32, 69, 78, 68]⟩
def verT2 : GTab := GTab.mk ⟨[77]⟩ [⟨[70]⟩, ⟨[67]⟩, ⟨[69]⟩] [0, 4, 8] [⟨7, [⟨0, 16⟩], ⟨false, false, false, false, 0, 0⟩, [], [⟨⟨[97]⟩, 1, false, false, ⟨0, 0, [], [], 0, []⟩, 0⟩, ⟨⟨[102, 49]⟩, 2, false, false, ⟨0, 0, [], [], 0, []⟩, 0⟩, ⟨⟨[102, 50]⟩, 3, false, false, ⟨0, 0, [], [], 0, []⟩, 0⟩], 1, true, 0⟩, ⟨2, [⟨2, 0⟩], ⟨false, false, false, false, 0, 0⟩, [], [], 0, false, 0⟩, ⟨2, [⟨2, 1⟩], ⟨false, false, false, false, 0, 0⟩, [], [], 0, false, 0⟩, ⟨2, [⟨2, 2⟩], ⟨false, false, false, false, 0, 0⟩, [], [], 0, false, 0⟩, ⟨9, [], ⟨false, false, false, false, 0, 0⟩, [], [⟨⟨[97]⟩, 5, false, false, ⟨0, 0, [], [], 0, []⟩, 0⟩, ⟨⟨[99, 49]⟩, 6, false, false, ⟨0, 0, [], [], 0, []⟩, 0⟩, ⟨⟨[99, 50]⟩, 7, false, false, ⟨0, 0, [], [], 0, []⟩, 0⟩], 1, true, 0⟩, ⟨2, [⟨2, 0⟩], ⟨false, false, false, false, 0, 0⟩, [], [], 0, false, 0⟩, ⟨2, [⟨2, 1⟩], ⟨false, false, false, false, 0, 0⟩, [], [], 0, false, 0⟩, ⟨2, [⟨2, 2⟩], ⟨false, false, false, false, 0, 0⟩, [], [], 0, false, 0⟩, ⟨3, [⟨0, 10⟩], ⟨false, false, false, false, 0, 0⟩, [⟨⟨[97]⟩, 0, false⟩, ⟨⟨[101, 49]⟩, 1, false⟩, ⟨⟨[101, 50]⟩, 2, false⟩], [], 1, true, 0⟩]
theorem ver2 : law14_version 2 = some verS2 := by kernel_rfl
theorem verB2 : oghamplay_Table verS2 = some (verT2, true) := by
  rw [oghamplay_TableF_eq]; kernel_rfl
def verS3 : Str := ⟨[77, 32, 68, 69, 70, 73, 78, 73, 84, 73, 79, 78, 83, 32, 73, 77, 80, 76, 73, 67, 73, 84, 32, 84, 65, 71, 83, 32, 58, 58, 61, 32, 66, 69, 71, 73, 78, 32, 70, 32, 58, 58, 61, 32, 83, 69, 81, 85, 69, 78, 67, 69, 32, 123, 32, 97, 32, 91, 48, 93, 32, 73, 78, 84, 69, 71, 69, 82, 44, 32, 46, 46, 46, 44, 32, 102, 49, 32, 91, 49, 93, 32, 73, 78, 84, 69, 71, 69, 82, 44, 32, 102, 50, 32, 91, 50, 93, 32, 73, 78, 84, 69, 71, 69, 82, 44, 32, 102, 51, 32, 91, 51, 93, 32, 73, 78, 84, 69, 71, 69, 82, 32, 125, 32, 67, 32, 58, 58, 61, 32, 67, 72, 79, 73, 67, 69, 32, 123, 32, 97, 32, 91, 48, 93, 32, 73, 78, 84, 69, 71, 69, 82, 44, 32, 46, 46, 46, 44, 32, 99, 49, 32, 91, 49, 93, 32, 73, 78, 84, 69, 71, 69, 82, 44, 32, 99, 50, 32, 91, 50, 93, 32, 73, 78, 84, 69, 71, 69, 82, 44, 32, 99, 51, 32, 91, 51, 93, 32, 73, 78, 84, 69, 71, 69, 82, 32, 125, 32, 69, 32, 58, 58, 61, 32, 69, 78, 85, 77, 69, 82, 65, 84, 69, 68, 32, 123, 32, 97, 44, 32, 46, 46, 46, 44, 32, 101, 49, 44, 32, 101, 50, 44, 32, 101, 51, 32, 125, 32, 69, 78, 68]⟩
def verT3 : GTab := GTab.mk ⟨[77]⟩ [⟨[70]⟩, ⟨[67]⟩, ⟨[69]⟩] [0, 5, 10] [⟨7, [⟨0, 16⟩], ⟨false, false, false, false, 0, 0⟩, [], [⟨⟨[97]⟩, 1, false, false, ⟨0, 0, [], [], 0, []⟩, 0⟩, ⟨⟨[102, 49]⟩, 2, false, false, ⟨0, 0, [], [], 0, []⟩, 0⟩, ⟨⟨[102, 50]⟩, 3, false, false, ⟨0, 0, [], [], 0, []⟩, 0⟩, ⟨⟨[102, 51]⟩, 4, false, false, ⟨0, 0, [], [], 0, []⟩, 0⟩], 1, true, 0⟩, ⟨2, [⟨2, 0⟩], ⟨false, false, false, false, 0, 0⟩, [], [], 0, false, 0⟩, ⟨2, [⟨2, 1⟩], ⟨false, false, false, false, 0, 0⟩, [], [], 0, false, 0⟩, ⟨2, [⟨2, 2⟩], ⟨false, false, false, false, 0, 0⟩, [], [], 0, false, 0⟩, ⟨2, [⟨2, 3⟩], ⟨false, false, false, false, 0, 0⟩, [], [], 0, false, 0⟩, ⟨9, [], ⟨false, false, false, false, 0, 0⟩, [], [⟨⟨[97]⟩, 6, false, false, ⟨0, 0, [], [], 0, []⟩, 0⟩, ⟨⟨[99, 49]⟩, 7, false, false, ⟨0, 0, [], [], 0, []⟩, 0⟩, ⟨⟨[99, 50]⟩, 8, false, false, ⟨0, 0, [], [], 0, []⟩, 0⟩, ⟨⟨[99, 51]⟩, 9, false, false, ⟨0, 0, [], [], 0, []⟩, 0⟩], 1, true, 0⟩, ⟨2, [⟨2, 0⟩], ⟨false, false, false, false, 0, 0⟩, [], [], 0, false, 0⟩, ⟨2, [⟨2, 1⟩], ⟨false, false, false, false, 0, 0⟩, [], [], 0, false, 0⟩, ⟨2, [⟨2, 2⟩], ⟨false, false, false, false, 0, 0⟩, [], [], 0, false, 0⟩, ⟨2, [⟨2, 3⟩], ⟨false, false, false, false, 0, 0⟩, [], [], 0, false, 0⟩, ⟨3, [⟨0, 10⟩], ⟨false, false, false, false, 0, 0⟩, [⟨⟨[97]⟩, 0, false⟩, ⟨⟨[101, 49]⟩, 1, false⟩, ⟨⟨[101, 50]⟩, 2, false⟩, ⟨⟨[101, 51]⟩, 3, false⟩], [], 1, true, 0⟩]
theorem ver3 : law14_version 3 = some verS3 := by kernel_rfl
theorem verB3 : oghamplay_Table verS3 = some (verT3, true) := by
  rw [oghamplay_TableF_eq]; kernel_rfl
def verS4 : Str := ⟨[77, 32, 68, 69, 70, 73, 78, 73, 84, 73, 79, 78, 83, 32, 73, 77, 80, 76, 73, 67, 73, 84, 32, 84, 65, 71, 83, 32, 58, 58, 61, 32, 66, 69, 71, 73, 78, 32, 70, 32, 58, 58, 61, 32, 83, 69, 81, 85, 69, 78, 67, 69, 32, 123, 32, 97, 32, 91, 48, 93, 32, 73, 78, 84, 69, 71, 69, 82, 44, 32, 46, 46, 46, 44, 32, 102, 49, 32, 91, 49, 93, 32, 73, 78, 84, 69, 71, 69, 82, 44, 32, 102, 50, 32, 91, 50, 93, 32, 73, 78, 84, 69, 71, 69, 82, 44, 32, 102, 51, 32, 91, 51, 93, 32, 73, 78, 84, 69, 71, 69, 82, 44, 32, 102, 52, 32, 91, 52, 93, 32, 73, 78, 84, 69, 71, 69, 82, 32, 125, 32, 67, 32, 58, 58, 61, 32, 67, 72, 79, 73, 67, 69, 32, 123, 32, 97, 32, 91, 48, 93, 32, 73, 78, 84, 69, 71, 69, 82, 44, 32, 46, 46, 46, 44, 32, 99, 49, 32, 91, 49, 93, 32, 73, 78, 84, 69, 71, 69, 82, 44, 32, 99, 50, 32, 91, 50, 93, 32, 73, 78, 84, 69, 71, 69, 82, 44, 32, 99, 51, 32, 91, 51, 93, 32, 73, 78, 84, 69, 71, 69, 82, 44, 32, 99, 52, 32, 91, 52, 93, 32, 73, 78, 84, 69, 71, 69, 82, 32, 125, 32, 69, 32, 58, 58, 61, 32, 69, 78, 85, 77, 69, 82, 65, 84, 69, 68, 32, 123, 32, 97, 44, 32, 46, 46, 46, 44, 32, 101, 49, 44, 32, 101, 50, 44, 32, 101, 51, 44, 32, 101, 52, 32, 125, 32, 69, 78, 68]⟩
def verT4 : GTab := GTab.mk ⟨[77]⟩ [⟨[70]⟩, ⟨[67]⟩, ⟨[69]⟩] [0, 6, 12] [⟨7, [⟨0, 16⟩], ⟨false, false, false, false, 0, 0⟩, [], [⟨⟨[97]⟩, 1, false, false, ⟨0, 0, [], [], 0, []⟩, 0⟩, ⟨⟨[102, 49]⟩, 2, false, false, ⟨0, 0, [], [], 0, []⟩, 0⟩, ⟨⟨[102, 50]⟩, 3, false, false, ⟨0, 0, [], [], 0, []⟩, 0⟩, ⟨⟨[102, 51]⟩, 4, false, false, ⟨0, 0, [], [], 0, []⟩, 0⟩, ⟨⟨[102, 52]⟩, 5, false, false, ⟨0, 0, [], [], 0, []⟩, 0⟩], 1, true, 0⟩, ⟨2, [⟨2, 0⟩], ⟨false, false, false, false, 0, 0⟩, [], [], 0, false, 0⟩, ⟨2, [⟨2, 1⟩], ⟨false, false, false, false, 0, 0⟩, [], [], 0, false, 0⟩, ⟨2, [⟨2, 2⟩], ⟨false, false, false, false, 0, 0⟩, [], [], 0, false, 0⟩, ⟨2, [⟨2, 3⟩], ⟨false, false, false, false, 0, 0⟩, [], [], 0, false, 0⟩, ⟨2, [⟨2, 4⟩], ⟨false, false, false, false, 0, 0⟩, [], [], 0, false, 0⟩, ⟨9, [], ⟨false, false, false, false, 0, 0⟩, [], [⟨⟨[97]⟩, 7, false, false, ⟨0, 0, [], [], 0, []⟩, 0⟩, ⟨⟨[99, 49]⟩, 8, false, false, ⟨0, 0, [], [], 0, []⟩, 0⟩, ⟨⟨[99, 50]⟩, 9, false, false, ⟨0, 0, [], [], 0, []⟩, 0⟩, ⟨⟨[99, 51]⟩, 10, false, false, ⟨0, 0, [], [], 0, []⟩, 0⟩, ⟨⟨[99, 52]⟩, 11, false, false, ⟨0, 0, [], [], 0, []⟩, 0⟩], 1, true, 0⟩, ⟨2, [⟨2, 0⟩], ⟨false, false, false, false, 0, 0⟩, [], [], 0, false, 0⟩, ⟨2, [⟨2, 1⟩], ⟨false, false, false, false, 0, 0⟩, [], [], 0, false, 0⟩, ⟨2, [⟨2, 2⟩], ⟨false, false, false, false, 0, 0⟩, [], [], 0, false, 0⟩, ⟨2, [⟨2, 3⟩], ⟨false, false, false, false, 0, 0⟩, [], [], 0, false, 0⟩, ⟨2, [⟨2, 4⟩], ⟨false, false, false, false, 0, 0⟩, [], [], 0, false, 0⟩, ⟨3, [⟨0, 10⟩], ⟨false, false, false, false, 0, 0⟩, [⟨⟨[97]⟩, 0, false⟩, ⟨⟨[101, 49]⟩, 1, false⟩, ⟨⟨[101, 50]⟩, 2, false⟩, ⟨⟨[101, 51]⟩, 3, false⟩, ⟨⟨[101, 52]⟩, 4, false⟩], [], 1, true, 0⟩]
theorem ver4 : law14_version 4 = some verS4 := by kernel_rfl
theorem verB4 : oghamplay_Table verS4 = some (verT4, true) := by
  rw [oghamplay_TableF_eq]; kernel_rfl
def verS5 : Str := ⟨[77, 32, 68, 69, 70, 73, 78, 73, 84, 73, 79, 78, 83, 32, 73, 77, 80, 76, 73, 67, 73, 84, 32, 84, 65, 71, 83, 32, 58, 58, 61, 32, 66, 69, 71, 73, 78, 32, 70, 32, 58, 58, 61, 32, 83, 69, 81, 85, 69, 78, 67, 69, 32, 123, 32, 97, 32, 91, 48, 93, 32, 73, 78, 84, 69, 71, 69, 82, 44, 32, 46, 46, 46, 44, 32, 102, 49, 32, 91, 49, 93, 32, 73, 78, 84, 69, 71, 69, 82, 44, 32, 102, 50, 32, 91, 50, 93, 32, 73, 78, 84, 69, 71, 69, 82, 44, 32, 102, 51, 32, 91, 51, 93, 32, 73, 78, 84, 69, 71, 69, 82, 44, 32, 102, 52, 32, 91, 52, 93, 32, 73, 78, 84, 69, 71, 69, 82, 44, 32, 102, 53, 32, 91, 53, 93, 32, 73, 78, 84, 69, 71, 69, 82, 32, 125, 32, 67, 32, 58, 58, 61, 32, 67, 72, 79, 73, 67, 69, 32, 123, 32, 97, 32, 91, 48, 93, 32, 73, 78, 84, 69, 71, 69, 82, 44, 32, 46, 46, 46, 44, 32, 99, 49, 32, 91, 49, 93, 32, 73, 78, 84, 69, 71, 69, 82, 44, 32, 99, 50, 32, 91, 50, 93, 32, 73, 78, 84, 69, 71, 69, 82, 44, 32, 99, 51, 32, 91, 51, 93, 32, 73, 78, 84, 69, 71, 69, 82, 44, 32, 99, 52, 32, 91, 52, 93, 32, 73, 78, 84, 69, 71, 69, 82, 44, 32, 99, 53, 32, 91, 53, 93, 32, 73, 78, 84, 69, 71, 69, 82, 32, 125, 32, 69, 32, 58, 58, 61, 32, 69, 78, 85, 77, 69, 82, 65, 84, 69, 68, 32, 123, 32, 97, 44, 32, 46, 46, 46, 44, 32, 101, 49, 44, 32, 101, 50, 44, 32, 101, 51, 44, 32, 101, 52, 44, 32, 101, 53, 32, 125, 32, 69, 78, 68]⟩
def verT5 : GTab := GTab.mk ⟨[77]⟩ [⟨[70]⟩, ⟨[67]⟩, ⟨[69]⟩] [0, 7, 14] [⟨7, [⟨0, 16⟩], ⟨false, false, false, false, 0, 0⟩, [], [⟨⟨[97]⟩, 1, false, false, ⟨0, 0, [], [], 0, []⟩, 0⟩, ⟨⟨[102, 49]⟩, 2, false, false, ⟨0, 0, [], [], 0, []⟩, 0⟩, ⟨⟨[102, 50]⟩, 3, false, false, ⟨0, 0, [], [], 0, []⟩, 0⟩, ⟨⟨[102, 51]⟩, 4, false, false, ⟨0, 0, [], [], 0, []⟩, 0⟩, ⟨⟨[102, 52]⟩, 5, false, false, ⟨0, 0, [], [], 0, []⟩, 0⟩, ⟨⟨[102, 53]⟩, 6, false, false, ⟨0, 0, [], [], 0, []⟩, 0⟩], 1, true, 0⟩, ⟨2, [⟨2, 0⟩], ⟨false, false, false, false, 0, 0⟩, [], [], 0, false, 0⟩, ⟨2, [⟨2, 1⟩], ⟨false, false, false, false, 0, 0⟩, [], [], 0, false, 0⟩, ⟨2, [⟨2, 2⟩], ⟨false, false, false, false, 0, 0⟩, [], [], 0, false, 0⟩, ⟨2, [⟨2, 3⟩], ⟨false, false, false, false, 0, 0⟩, [], [], 0, false, 0⟩, ⟨2, [⟨2, 4⟩], ⟨false, false, false, false, 0, 0⟩, [], [], 0, false, 0⟩, ⟨2, [⟨2, 5⟩], ⟨false, false, false, false, 0, 0⟩, [], [], 0, false, 0⟩, ⟨9, [], ⟨false, false, false, false, 0, 0⟩, [], [⟨⟨[97]⟩, 8, false, false, ⟨0, 0, [], [], 0, []⟩, 0⟩, ⟨⟨[99, 49]⟩, 9, false, false, ⟨0, 0, [], [], 0, []⟩, 0⟩, ⟨⟨[99, 50]⟩, 10, false, false, ⟨0, 0, [], [], 0, []⟩, 0⟩, ⟨⟨[99, 51]⟩, 11, false, false, ⟨0, 0, [], [], 0, []⟩, 0⟩, ⟨⟨[99, 52]⟩, 12, false, false, ⟨0, 0, [], [], 0, []⟩, 0⟩, ⟨⟨[99, 53]⟩, 13, false, false, ⟨0, 0, [], [], 0, []⟩, 0⟩], 1, true, 0⟩, ⟨2, [⟨2, 0⟩], ⟨false, false, false, false, 0, 0⟩, [], [], 0, false, 0⟩, ⟨2, [⟨2, 1⟩], ⟨false, false, false, false, 0, 0⟩, [], [], 0, false, 0⟩, ⟨2, [⟨2, 2⟩], ⟨false, false, false, false, 0, 0⟩, [], [], 0, false, 0⟩, ⟨2, [⟨2, 3⟩], ⟨false, false, false, false, 0, 0⟩, [], [], 0, false, 0⟩, ⟨2, [⟨2, 4⟩], ⟨false, false, false, false, 0, 0⟩, [], [], 0, false, 0⟩, ⟨2, [⟨2, 5⟩], ⟨false, false, false, false, 0, 0⟩, [], [], 0, false, 0⟩, ⟨3, [⟨0, 10⟩], ⟨false, false, false, false, 0, 0⟩, [⟨⟨[97]⟩, 0, false⟩, ⟨⟨[101, 49]⟩, 1, false⟩, ⟨⟨[101, 50]⟩, 2, false⟩, ⟨⟨[101, 51]⟩, 3, false⟩, ⟨⟨[101, 52]⟩, 4, false⟩, ⟨⟨[101, 53]⟩, 5, false⟩], [], 1, true, 0⟩]
theorem ver5 : law14_version 5 = some verS5 := by kernel_rfl
theorem verB5 : oghamplay_Table verS5 = some (verT5, true) := by
  rw [oghamplay_TableF_eq]; kernel_rfl
def verS6 : Str := ⟨[77, 32, 68, 69, 70, 73, 78, 73, 84, 73, 79, 78, 83, 32, 73, 77, 80, 76, 73, 67, 73, 84, 32, 84, 65, 71, 83, 32, 58, 58, 61, 32, 66, 69, 71, 73, 78, 32, 70, 32, 58, 58, 61, 32, 83, 69, 81, 85, 69, 78, 67, 69, 32, 123, 32, 97, 32, 91, 48, 93, 32, 73, 78, 84, 69, 71, 69, 82, 44, 32, 46, 46, 46, 44, 32, 102, 49, 32, 91, 49, 93, 32, 73, 78, 84, 69, 71, 69, 82, 44, 32, 102, 50, 32, 91, 50, 93, 32, 73, 78, 84, 69, 71, 69, 82, 44, 32, 102, 51, 32, 91, 51, 93, 32, 73, 78, 84, 69, 71, 69, 82, 44, 32, 102, 52, 32, 91, 52, 93, 32, 73, 78, 84, 69, 71, 69, 82, 44, 32, 102, 53, 32, 91, 53, 93, 32, 73, 78, 84, 69, 71, 69, 82, 44, 32, 102, 54, 32, 91, 54, 93, 32, 73, 78, 84, 69, 71, 69, 82, 32, 125, 32, 67, 32, 58, 58, 61, 32, 67, 72, 79, 73, 67, 69, 32, 123, 32, 97, 32, 91, 48, 93, 32, 73, 78, 84, 69, 71, 69, 82, 44, 32, 46, 46, 46, 44, 32, 99, 49, 32, 91, 49, 93, 32, 73, 78, 84, 69, 71, 69, 82, 44, 32, 99, 50, 32, 91, 50, 93, 32, 73, 78, 84, 69, 71, 69, 82, 44, 32, 99, 51, 32, 91, 51, 93, 32, 73, 78, 84, 69, 71, 69, 82, 44, 32, 99, 52, 32, 91, 52, 93, 32, 73, 78, 84, 69, 71, 69, 82, 44, 32, 99, 53, 32, 91, 53, 93, 32, 73, 78, 84, 69, 71, 69, 82, 44, 32, 99, 54, 32, 91, 54, 93, 32, 73, 78, 84, 69, 71, 69, 82, 32, 125, 32, 69, 32, 58, 58, 61, 32, 69, 78, 85, 77, 69, 82, 65, 84, 69, 68, 32, 123, 32, 97, 44, 32, 46, 46, 46, 44, 32, 101, 49, 44, 32, 101, 50, 44, 32, 101, 51, 44, 32, 101, 52, 44, 32, 101, 53, 44, 32, 101, 54, 32, 125, 32, 69, 78, 68]⟩
def verT6 : GTab := GTab.mk ⟨[77]⟩ [⟨[70]⟩, ⟨[67]⟩, ⟨[69]⟩] [0, 8, 16] [⟨7, [⟨0, 16⟩], ⟨false, false, false, false, 0, 0⟩, [], [⟨⟨[97]⟩, 1, false, false, ⟨0, 0, [], [], 0, []⟩, 0⟩, ⟨⟨[102, 49]⟩, 2, false, false, ⟨0, 0, [], [], 0, []⟩, 0⟩, ⟨⟨[102, 50]⟩, 3, false, false, ⟨0, 0, [], [], 0, []⟩, 0⟩, ⟨⟨[102, 51]⟩, 4, false, false, ⟨0, 0, [], [], 0, []⟩, 0⟩, ⟨⟨[102, 52]⟩, 5, false, false, ⟨0, 0, [], [], 0, []⟩, 0⟩, ⟨⟨[102, 53]⟩, 6, false, false, ⟨0, 0, [], [], 0, []⟩, 0⟩, ⟨⟨[102, 54]⟩, 7, false, false, ⟨0, 0, [], [], 0, []⟩, 0⟩], 1, true, 0⟩, ⟨2, [⟨2, 0⟩], ⟨false, false, false, false, 0, 0⟩, [], [], 0, false, 0⟩, ⟨2, [⟨2, 1⟩], ⟨false, false, false, false, 0, 0⟩, [], [], 0, false, 0⟩, ⟨2, [⟨2, 2⟩], ⟨false, false, false, false, 0, 0⟩, [], [], 0, false, 0⟩, ⟨2, [⟨2, 3⟩], ⟨false, false, false, false, 0, 0⟩, [], [], 0, false, 0⟩, ⟨2, [⟨2, 4⟩], ⟨false, false, false, false, 0, 0⟩, [], [], 0, false, 0⟩, ⟨2, [⟨2, 5⟩], ⟨false, false, false, false, 0, 0⟩, [], [], 0, false, 0⟩, ⟨2, [⟨2, 6⟩], ⟨false, false, false, false, 0, 0⟩, [], [], 0, false, 0⟩, ⟨9, [], ⟨false, false, false, false, 0, 0⟩, [], [⟨⟨[97]⟩, 9, false, false, ⟨0, 0, [], [], 0, []⟩, 0⟩, ⟨⟨[99, 49]⟩, 10, false, false, ⟨0, 0, [], [], 0, []⟩, 0⟩, ⟨⟨[99, 50]⟩, 11, false, false, ⟨0, 0, [], [], 0, []⟩, 0⟩, ⟨⟨[99, 51]⟩, 12, false, false, ⟨0, 0, [], [], 0, []⟩, 0⟩, ⟨⟨[99, 52]⟩, 13, false, false, ⟨0, 0, [], [], 0, []⟩, 0⟩, ⟨⟨[99, 53]⟩, 14, false, false, ⟨0, 0, [], [], 0, []⟩, 0⟩, ⟨⟨[99, 54]⟩, 15, false, false, ⟨0, 0, [], [], 0, []⟩, 0⟩], 1, true, 0⟩, ⟨2, [⟨2, 0⟩], ⟨false, false, false, false, 0, 0⟩, [], [], 0, false, 0⟩, ⟨2, [⟨2, 1⟩], ⟨false, false, false, false, 0, 0⟩, [], [], 0, false, 0⟩, ⟨2, [⟨2, 2⟩], ⟨false, false, false, false, 0, 0⟩, [], [], 0, false, 0⟩, ⟨2, [⟨2, 3⟩], ⟨false, false, false, false, 0, 0⟩, [], [], 0, false, 0⟩, ⟨2, [⟨2, 4⟩], ⟨false, false, false, false, 0, 0⟩, [], [], 0, false, 0⟩, ⟨2, [⟨2, 5⟩], ⟨false, false, false, false, 0, 0⟩, [], [], 0, false, 0⟩, ⟨2, [⟨2, 6⟩], ⟨false, false, false, false, 0, 0⟩, [], [], 0, false, 0⟩, ⟨3, [⟨0, 10⟩], ⟨false, false, false, false, 0, 0⟩, [⟨⟨[97]⟩, 0, false⟩, ⟨⟨[101, 49]⟩, 1, false⟩, ⟨⟨[101, 50]⟩, 2, false⟩, ⟨⟨[101, 51]⟩, 3, false⟩, ⟨⟨[101, 52]⟩, 4, false⟩, ⟨⟨[101, 53]⟩, 5, false⟩, ⟨⟨[101, 54]⟩, 6, false⟩], [], 1, true, 0⟩]
theorem ver6 : law14_version 6 = some verS6 := by kernel_rfl
theorem verB6 : oghamplay_Table verS6 = some (verT6, true) := by
  rw [oghamplay_TableF_eq]; kernel_rfl
def verS : Nat → Str
  | 0 => verS0
  | 1 => verS1
  | 2 => verS2
  | 3 => verS3
  | 4 => verS4
  | 5 => verS5
  | _ => verS6
def verT : Nat → GTab
  | 0 => verT0
  | 1 => verT1
  | 2 => verT2
  | 3 => verT3
  | 4 => verT4
  | 5 => verT5
  | _ => verT6
theorem ver_eq : ∀ {f : Nat}, f < 7 → law14_version (f : Int) = some (verS f) ∧ oghamplay_Table (verS f) = some (verT f, true)
  | 0, _ => ⟨ver0, verB0⟩
  | 1, _ => ⟨ver1, verB1⟩
  | 2, _ => ⟨ver2, verB2⟩
  | 3, _ => ⟨ver3, verB3⟩
  | 4, _ => ⟨ver4, verB4⟩
  | 5, _ => ⟨ver5, verB5⟩
  | 6, _ => ⟨ver6, verB6⟩
  | f + 7, h => absurd h (by omega)
def rt (f r : Nat) : Int := ((verT f).roots[r]?).getD 0
theorem rt_eq : ∀ {f : Nat}, f < 7 → ∀ {r : Nat}, r < 3 → getI (verT f).roots (r : Int) = some (rt f r)
  | 0, _, 0, _ => rfl
  | 0, _, 1, _ => rfl
  | 0, _, 2, _ => rfl
  | 1, _, 0, _ => rfl
  | 1, _, 1, _ => rfl
  | 1, _, 2, _ => rfl
  | 2, _, 0, _ => rfl
  | 2, _, 1, _ => rfl
  | 2, _, 2, _ => rfl
  | 3, _, 0, _ => rfl
  | 3, _, 1, _ => rfl
  | 3, _, 2, _ => rfl
  | 4, _, 0, _ => rfl
  | 4, _, 1, _ => rfl
  | 4, _, 2, _ => rfl
  | 5, _, 0, _ => rfl
  | 5, _, 1, _ => rfl
  | 5, _, 2, _ => rfl
  | 6, _, 0, _ => rfl
  | 6, _, 1, _ => rfl
  | 6, _, 2, _ => rfl
  | f + 7, h, _, _ => absurd h (by omega)
  | _, _, r + 3, h => absurd h (by omega)
def adW (f : Nat) (c : Nat → Bool) (j : Nat) : Val := bif c j && decide (j < f) then Val.mk 2 (j : Int) [] [] 0 [] else Val.mk 0 0 [] [] 0 []
def adV (f m : Nat) (c : Nat → Bool) : Val := Val.mk 7 0 [] (Val.mk 2 50 [] [] 0 [] :: (List.range m).map (adW f c)) 0 []
def adOk (o : Option (Val × Int)) (v : Val) : Bool := match o with
  | some (x, e) => decide (e = 0) && yes (h_Value fuel x v)
  | none => false
theorem adOk_get {o : Option (Val × Int)} {v : Val} (h : adOk o v = true) : ∃ x : Val, o = some (x, 0) ∧ h_Value fuel x v = some true := by
  unfold adOk at h
  cases o with
  | none => cases h
  | some p =>
    obtain ⟨x, e⟩ := p
    have := Bool.and_eq_true_iff.1 h
    have he := of_decide_eq_true this.1
    subst he
    exact ⟨x, rfl, of_yes this.2⟩
def sel (b0 b1 b2 b3 b4 b5 : Bool) : Nat → Bool
  | 0 => b0
  | 1 => b1
  | 2 => b2
  | 3 => b3
  | 4 => b4
  | _ => b5
def seqP (f t : Nat) : Bool := bools.all fun b0 => bools.all fun b1 => bools.all fun b2 => bools.all fun b3 => bools.all fun b4 => bools.all fun b5 =>
  adOk (project_Value (verT f) (rt f 0) (verT t) (rt t 0) (adV f f (sel b0 b1 b2 b3 b4 b5))) (adV f t (sel b0 b1 b2 b3 b4 b5))
def choP (f t : Nat) : Bool := (List.range (f + 1)).all fun k =>
  adOk (project_Value (verT f) (rt f 1) (verT t) (rt t 1) (Val.mk 9 (k : Int) [] [Val.mk 2 7 [] [] 0 []] 0 [])) (bif decide (t < k) then Val.mk 12 0 [] [] 0 [] else Val.mk 9 (k : Int) [] [Val.mk 2 7 [] [] 0 []] 0 []) &&
  adOk (project_Value (verT f) (rt f 2) (verT t) (rt t 2) (Val.mk 3 (k : Int) [] [] 0 [])) (bif decide (t < k) then Val.mk 12 0 [] [] 0 [] else Val.mk 3 (k : Int) [] [] 0 [])
theorem seq_0_0 : seqP 0 0 = true := by kernel_rfl
theorem seq_0_1 : seqP 0 1 = true := by kernel_rfl
theorem seq_0_2 : seqP 0 2 = true := by kernel_rfl
theorem seq_0_3 : seqP 0 3 = true := by kernel_rfl
theorem seq_0_4 : seqP 0 4 = true := by kernel_rfl
theorem seq_0_5 : seqP 0 5 = true := by kernel_rfl
theorem seq_0_6 : seqP 0 6 = true := by kernel_rfl
theorem seq_1_0 : seqP 1 0 = true := by kernel_rfl
theorem seq_1_1 : seqP 1 1 = true := by kernel_rfl
theorem seq_1_2 : seqP 1 2 = true := by kernel_rfl
theorem seq_1_3 : seqP 1 3 = true := by kernel_rfl
theorem seq_1_4 : seqP 1 4 = true := by kernel_rfl
theorem seq_1_5 : seqP 1 5 = true := by kernel_rfl
theorem seq_1_6 : seqP 1 6 = true := by kernel_rfl
theorem seq_2_0 : seqP 2 0 = true := by kernel_rfl
theorem seq_2_1 : seqP 2 1 = true := by kernel_rfl
theorem seq_2_2 : seqP 2 2 = true := by kernel_rfl
theorem seq_2_3 : seqP 2 3 = true := by kernel_rfl
theorem seq_2_4 : seqP 2 4 = true := by kernel_rfl
theorem seq_2_5 : seqP 2 5 = true := by kernel_rfl
theorem seq_2_6 : seqP 2 6 = true := by kernel_rfl
theorem seq_3_0 : seqP 3 0 = true := by kernel_rfl
theorem seq_3_1 : seqP 3 1 = true := by kernel_rfl
theorem seq_3_2 : seqP 3 2 = true := by kernel_rfl
theorem seq_3_3 : seqP 3 3 = true := by kernel_rfl
theorem seq_3_4 : seqP 3 4 = true := by kernel_rfl
theorem seq_3_5 : seqP 3 5 = true := by kernel_rfl
theorem seq_3_6 : seqP 3 6 = true := by kernel_rfl
theorem seq_4_0 : seqP 4 0 = true := by kernel_rfl
theorem seq_4_1 : seqP 4 1 = true := by kernel_rfl
theorem seq_4_2 : seqP 4 2 = true := by kernel_rfl
theorem seq_4_3 : seqP 4 3 = true := by kernel_rfl
theorem seq_4_4 : seqP 4 4 = true := by kernel_rfl
theorem seq_4_5 : seqP 4 5 = true := by kernel_rfl
theorem seq_4_6 : seqP 4 6 = true := by kernel_rfl
theorem seq_5_0 : seqP 5 0 = true := by kernel_rfl
theorem seq_5_1 : seqP 5 1 = true := by kernel_rfl
theorem seq_5_2 : seqP 5 2 = true := by kernel_rfl
theorem seq_5_3 : seqP 5 3 = true := by kernel_rfl
theorem seq_5_4 : seqP 5 4 = true := by kernel_rfl
theorem seq_5_5 : seqP 5 5 = true := by kernel_rfl
theorem seq_5_6 : seqP 5 6 = true := by kernel_rfl
theorem seq_6_0 : seqP 6 0 = true := by kernel_rfl
theorem seq_6_1 : seqP 6 1 = true := by kernel_rfl
theorem seq_6_2 : seqP 6 2 = true := by kernel_rfl
theorem seq_6_3 : seqP 6 3 = true := by kernel_rfl
theorem seq_6_4 : seqP 6 4 = true := by kernel_rfl
theorem seq_6_5 : seqP 6 5 = true := by kernel_rfl
theorem seq_6_6 : seqP 6 6 = true := by kernel_rfl
theorem cho_0 : ((List.range 7).all fun t => choP 0 t) = true := by kernel_rfl
theorem cho_1 : ((List.range 7).all fun t => choP 1 t) = true := by kernel_rfl
theorem cho_2 : ((List.range 7).all fun t => choP 2 t) = true := by kernel_rfl
theorem cho_3 : ((List.range 7).all fun t => choP 3 t) = true := by kernel_rfl
theorem cho_4 : ((List.range 7).all fun t => choP 4 t) = true := by kernel_rfl
theorem cho_5 : ((List.range 7).all fun t => choP 5 t) = true := by kernel_rfl
theorem cho_6 : ((List.range 7).all fun t => choP 6 t) = true := by kernel_rfl
theorem seq_all : ∀ {f : Nat}, f < 7 → ∀ {t : Nat}, t < 7 → seqP f t = true
  | 0, _, 0, _ => seq_0_0
  | 0, _, 1, _ => seq_0_1
  | 0, _, 2, _ => seq_0_2
  | 0, _, 3, _ => seq_0_3
  | 0, _, 4, _ => seq_0_4
  | 0, _, 5, _ => seq_0_5
  | 0, _, 6, _ => seq_0_6
  | 1, _, 0, _ => seq_1_0
  | 1, _, 1, _ => seq_1_1
  | 1, _, 2, _ => seq_1_2
  | 1, _, 3, _ => seq_1_3
  | 1, _, 4, _ => seq_1_4
  | 1, _, 5, _ => seq_1_5
  | 1, _, 6, _ => seq_1_6
  | 2, _, 0, _ => seq_2_0
  | 2, _, 1, _ => seq_2_1
  | 2, _, 2, _ => seq_2_2
  | 2, _, 3, _ => seq_2_3
  | 2, _, 4, _ => seq_2_4
  | 2, _, 5, _ => seq_2_5
  | 2, _, 6, _ => seq_2_6
  | 3, _, 0, _ => seq_3_0
  | 3, _, 1, _ => seq_3_1
  | 3, _, 2, _ => seq_3_2
  | 3, _, 3, _ => seq_3_3
  | 3, _, 4, _ => seq_3_4
  | 3, _, 5, _ => seq_3_5
  | 3, _, 6, _ => seq_3_6
  | 4, _, 0, _ => seq_4_0
  | 4, _, 1, _ => seq_4_1
  | 4, _, 2, _ => seq_4_2
  | 4, _, 3, _ => seq_4_3
  | 4, _, 4, _ => seq_4_4
  | 4, _, 5, _ => seq_4_5
  | 4, _, 6, _ => seq_4_6
  | 5, _, 0, _ => seq_5_0
  | 5, _, 1, _ => seq_5_1
  | 5, _, 2, _ => seq_5_2
  | 5, _, 3, _ => seq_5_3
  | 5, _, 4, _ => seq_5_4
  | 5, _, 5, _ => seq_5_5
  | 5, _, 6, _ => seq_5_6
  | 6, _, 0, _ => seq_6_0
  | 6, _, 1, _ => seq_6_1
  | 6, _, 2, _ => seq_6_2
  | 6, _, 3, _ => seq_6_3
  | 6, _, 4, _ => seq_6_4
  | 6, _, 5, _ => seq_6_5
  | 6, _, 6, _ => seq_6_6
  | f + 7, h, _, _ => absurd h (by omega)
  | _, _, t + 7, h => absurd h (by omega)
theorem cho_all : ∀ {f : Nat}, f < 7 → ∀ {t : Nat}, t < 7 → choP f t = true
  | 0, _, _, h => all_get cho_0 h
  | 1, _, _, h => all_get cho_1 h
  | 2, _, _, h => all_get cho_2 h
  | 3, _, _, h => all_get cho_3 h
  | 4, _, _, h => all_get cho_4 h
  | 5, _, _, h => all_get cho_5 h
  | 6, _, _, h => all_get cho_6 h
  | f + 7, h, _, _ => absurd h (by omega)
theorem adV_sel (f m : Nat) (hm : m < 7) (c : Nat → Bool) : adV f m c = adV f m (sel (c 0) (c 1) (c 2) (c 3) (c 4) (c 5)) := by
  unfold adV
  congr 2
  refine List.map_congr_left fun j hj => ?_
  have hj : j < 6 := by have := List.mem_range.1 hj; omega
  unfold adW
  have : c j = sel (c 0) (c 1) (c 2) (c 3) (c 4) (c 5) j := by
    match j, hj with
    | 0, _ => rfl
    | 1, _ => rfl
    | 2, _ => rfl
    | 3, _ => rfl
    | 4, _ => rfl
    | 5, _ => rfl
  rw [← this]
theorem adds_seq {f t : Nat} (hf : f < 7) (ht : t < 7) (c : Nat → Bool) : ∃ x : Val, project_Value (verT f) (rt f 0) (verT t) (rt t 0) (adV f f c) = some (x, 0) ∧ h_Value fuel x (adV f t c) = some true := by
  rw [adV_sel f f hf c, adV_sel f t ht c]
  exact adOk_get (bools_get (bools_get (bools_get (bools_get (bools_get (bools_get (seq_all hf ht) (c 0)) (c 1)) (c 2)) (c 3)) (c 4)) (c 5))
theorem adV_snoc (f m : Nat) (c : Nat → Bool) : (Val.mk 2 50 [] [] 0 [] :: (List.range m).map (adW f c)) ++ [adW f c m] = Val.mk 2 50 [] [] 0 [] :: (List.range (m + 1)).map (adW f c) := by
  rw [List.range_succ, List.map_append]; rfl
theorem projAdds_true (a b w : Int) (there : List Bool) : law14_ProjectAdds a b w there = some true := by
  refine tx ?_
  unfold law14_ProjectAdds
  generalize hf0 : (UInt64.ofNat (a % 18446744073709551616).toNat) % (7 : UInt64) = f0
  generalize ht0 : (UInt64.ofNat (b % 18446744073709551616).toNat) % (7 : UInt64) = t0
  have hf : f0.toNat < 7 := by rw [← hf0, UInt64.toNat_mod]; exact Nat.mod_lt _ (by decide)
  have ht : t0.toNat < 7 := by rw [← ht0, UInt64.toNat_mod]; exact Nat.mod_lt _ (by decide)
  generalize hfn : f0.toNat = f at hf ⊢
  generalize htn : t0.toNat = t at ht ⊢
  obtain ⟨v1, v2⟩ := ver_eq hf
  obtain ⟨v3, v4⟩ := ver_eq ht
  refine T.asr (by decide) (T.ck (by omega) (T.asr (by decide) (T.ck (by omega) (T.eq v1 (T.eq v2 (T.eq v3 (T.eq v4 ?_)))))))
  refine T.jp (fun x => x = false) (fun J h => T.br (fun h1 => by cases h1) fun _ => h _ rfl) fun x hx => ?_
  subst hx
  refine T.br (fun h => by cases h) fun _ => ?_
  refine T.lp (ι := Int × Val × Val) (fun q => ∃ k : Nat, k ≤ max f t ∧ q = ((k : Int), adV f (min k t) (bit there), adV f (min k f) (bit there))) (fun q => (7 - q.1).toNat) ⟨0, by omega, by rw [Nat.zero_min, Nat.zero_min]; rfl⟩ (by dsimp only; omega) fun L q hq hL => ?_
  obtain ⟨k, hk, rfl⟩ := hq
  dsimp only at hL ⊢
  refine T.br (fun hb => ?_) fun hb => ?_
  · have hb := of_decide_eq_true hb
    have hk2 : k < max f t := by omega
    have nx : ∀ m, k < m → min k m = k ∧ min (k + 1) m = k + 1 := fun m h => by omega
    have ny : ∀ m, ¬ k < m → min (k + 1) m = min k m := fun m h => by omega
    refine T.jp (ι := Val × Val) (fun p => p = (adV f (min (k + 1) t) (bit there), adV f (min (k + 1) f) (bit there))) (fun J h => ?_) fun p hp => T.ck (by omega) (hL _ ⟨k + 1, by omega, by rw [hp]; rfl⟩ (by dsimp only; omega))
    refine T.jp (fun x => x = bit there k) (fun J2 h2 => T.br (fun hc => T.get (by omega) (of_decide_eq_true hc) fun y hy => h2 _ ?_) fun hc => h2 _ ?_) fun x hx => ?_
    · unfold bit
      rw [Int.toNat_natCast] at hy
      rw [hy]; rfl
    · have := of_decide_eq_false hc
      unfold bit
      rw [List.getElem?_eq_none (by omega)]; rfl
    refine T.jp (fun y => y = (bit there k && decide (k < f))) (fun J2 h2 => T.br (fun hc => h2 _ ?_) fun hc => h2 _ (by rw [← hx, hc]; rfl)) fun y hy => ?_
    · rw [← hx, hc, Bool.true_and, decide_eq_decide]; omega
    refine T.jp (ι := Val) (fun z => z = adW f (bit there) k) (fun J2 h2 => T.br (fun hc => h2 _ ?_) fun hc => h2 _ ?_) fun z hz => ?_
    · unfold adW; rw [← hy, hc]; rfl
    · unfold adW; rw [← hy, hc]; rfl
    subst hz
    refine T.jp (ι := Val) (fun z => z = adV f (min (k + 1) f) (bit there)) (fun J2 h2 => T.br (fun hc => ?_) fun hc => h2 _ ?_) fun z hz => ?_
    · have hc := of_decide_eq_true hc
      obtain ⟨e1, e2⟩ := nx f (by omega)
      rw [e1]
      rw [e2] at h2
      refine T.abl (by show (Val.mk 2 50 [] [] 0 [] :: (List.range k).map (adW f (bit there))).length + 1 ≤ _; rw [List.length_cons, List.length_map, List.length_range]; omega) (h2 _ ?_)
      show Val.mk 7 0 [] ((Val.mk 2 50 [] [] 0 [] :: (List.range k).map (adW f (bit there))) ++ [adW f (bit there) k]) 0 [] = _
      rw [adV_snoc]; rfl
    · have hc := of_decide_eq_false hc
      rw [ny f (by omega)]
    subst hz
    refine T.br (fun hc => ?_) fun hc => h _ ?_
    · have hc := of_decide_eq_true hc
      obtain ⟨e1, e2⟩ := nx t (by omega)
      rw [e1]
      rw [e2] at h
      refine T.abl (by show (Val.mk 2 50 [] [] 0 [] :: (List.range k).map (adW f (bit there))).length + 1 ≤ _; rw [List.length_cons, List.length_map, List.length_range]; omega) (h _ ?_)
      have : Val.mk 7 0 [] ((Val.mk 2 50 [] [] 0 [] :: (List.range k).map (adW f (bit there))) ++ [adW f (bit there) k]) 0 [] = adV f (k + 1) (bit there) := by rw [adV_snoc]; rfl
      exact congrArg (fun z => (z, adV f (min (k + 1) f) (bit there))) this
    · have hc := of_decide_eq_false hc
      rw [ny t (by omega)]
  have hb := of_decide_eq_false hb
  have e1 : min k t = t := by omega
  have e2 : min k f = f := by omega
  rw [e1, e2]
  obtain ⟨x1, p1, p2⟩ := adds_seq hf ht (bit there)
  refine T.jp (ι := Val × Int) (fun p => p = (x1, 0)) (fun J h => T.eq (rt_eq hf (r := 0) (by decide)) (T.eq (rt_eq ht (r := 0) (by decide)) (T.eq p1 (h _ rfl)))) fun p hp => ?_
  subst hp
  have hn : (UInt64.ofNat (((f : Int) + 1) % 18446744073709551616).toNat).toNat = f + 1 := by
    rw [UInt64.toNat_ofNat']; omega
  have hnz : (!decide ((UInt64.ofNat (((f : Int) + 1) % 18446744073709551616).toNat) = 0)) = true := by
    have : ¬ (UInt64.ofNat (((f : Int) + 1) % 18446744073709551616).toNat) = 0 := fun h => by
      have := congrArg UInt64.toNat h
      rw [hn] at this
      exact absurd this (by show ¬ f + 1 = 0; omega)
    rw [decide_eq_false this]; rfl
  generalize hk0 : (UInt64.ofNat (w % 18446744073709551616).toNat) % (UInt64.ofNat (((f : Int) + 1) % 18446744073709551616).toNat) = k0
  have hkl : k0.toNat < f + 1 := by rw [← hk0, UInt64.toNat_mod, hn]; exact Nat.mod_lt _ (by omega)
  generalize hkn : k0.toNat = n at hkl ⊢
  have hc := all_get (cho_all hf ht) hkl
  obtain ⟨hc1, hc2⟩ := and_get hc
  obtain ⟨x2, p3, p4⟩ := adOk_get hc1
  obtain ⟨x3, p5, p6⟩ := adOk_get hc2
  refine T.ck (by omega) (T.asr hnz (T.ck (by omega) ?_))
  refine T.jp (ι := Val × Int) (fun p => p = (x2, 0)) (fun J h => T.eq (rt_eq hf (r := 1) (by decide)) (T.eq (rt_eq ht (r := 1) (by decide)) (T.eq p3 (h _ rfl)))) fun p hp => ?_
  subst hp
  refine T.jp (ι := Val × Int) (fun p => p = (x3, 0)) (fun J h => T.eq (rt_eq hf (r := 2) (by decide)) (T.eq (rt_eq ht (r := 2) (by decide)) (T.eq p5 (h _ rfl)))) fun p hp => ?_
  subst hp
  have ed : decide ((t : Int) < (n : Int)) = decide (t < n) := by rw [decide_eq_decide]; omega
  rw [ed]
  refine T.jp (ι := Val × Val) (fun p => p = (bif decide (t < n) then Val.mk 12 0 [] [] 0 [] else Val.mk 3 (n : Int) [] [] 0 [], bif decide (t < n) then Val.mk 12 0 [] [] 0 [] else Val.mk 9 (n : Int) [] [Val.mk 2 7 [] [] 0 []] 0 [])) (fun J h => T.br (fun h1 => h _ (by rw [h1]; rfl)) fun h1 => h _ (by rw [h1]; rfl)) fun p hp => ?_
  subst hp
  refine T.eq awake14 (T.eq p2 (T.eq p4 (T.eq p6 (T.some rfl))))
end Go.Proofs.YtnnijoepfgnlfaaGreatDoor

