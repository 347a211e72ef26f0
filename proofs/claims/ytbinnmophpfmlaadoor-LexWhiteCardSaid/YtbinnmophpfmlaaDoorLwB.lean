/- The law of the white is true of its model. No condition: general lemmas. -/
import Derived.Test.YtbinnmophpfmlaaDoorLwA
import Derived.Lib.ValidLaws
set_option linter.unusedVariables false
set_option linter.unusedSimpArgs false

namespace Go.Proofs.YtbinnmophpfmlaaDoor
open Go.Sy
set_option maxRecDepth 4000
def lex_reader_peek (a_r_ : GLex) (a_k : Int) : Option (UInt8 × GLex) :=
  ck ((a_r_.reader.at_ + a_k)) <| br (decide ((a_r_.reader.s.b.length : Int) ≤ (a_r_.reader.at_ + a_k))) (some ((0 : UInt8), a_r_)) (ck ((a_r_.reader.at_ + a_k)) <| cal (getI a_r_.reader.s.b (a_r_.reader.at_ + a_k)) fun y7 => some (y7, a_r_))

def internal_stringslite_HasPrefix (a_s : Str) (a_prefix_ : Str) : Option (Bool) :=
  jp (ι := Bool) (fun J2 => br (decide ((a_prefix_.b.length : Int) ≤ (a_s.b.length : Int))) (asr (decide (0 ≤ (0 : Int) ∧ (0 : Int) ≤ (a_prefix_.b.length : Int) ∧ (a_prefix_.b.length : Int) ≤ (a_s.b.length : Int))) <| J2 ((decide ((Str.mk ((a_s.b.take ((a_prefix_.b.length : Int)).toNat).drop (0 : Int).toNat)) = a_prefix_)))) (J2 (false))) (fun q1 => some (q1))

def strings_HasPrefix (a_s : Str) (a_prefix_ : Str) : Option (Bool) :=
  cal (internal_stringslite_HasPrefix a_s a_prefix_) fun y1 => some (y1)

def lex_reader_ahead (a_r_ : GLex) (a_t : Str) : Option (Bool × GLex) :=
  asr (decide (0 ≤ a_r_.reader.at_ ∧ a_r_.reader.at_ ≤ (a_r_.reader.s.b.length : Int) ∧ (a_r_.reader.s.b.length : Int) ≤ (a_r_.reader.s.b.length : Int))) <| cal (strings_HasPrefix (Str.mk ((a_r_.reader.s.b.take ((a_r_.reader.s.b.length : Int)).toNat).drop (a_r_.reader.at_).toNat)) a_t) fun y4 => some (y4, a_r_)

def lex_reader_skip (a_r_ : GLex) : Option (GLex) :=
  lp (ι := GLex) (fun L2 q1 => br (decide (q1.reader.at_ < (q1.reader.s.b.length : Int))) (cal (lex_reader_peek q1 (0 : Int)) fun y65 => jp (ι := Bool) (fun J67 => br (decide (y65.1 = (32 : UInt8))) (J67 (true)) (J67 ((decide (y65.1 = (9 : UInt8)))))) (fun q66 => jp (ι := Bool) (fun J70 => br q66 (J70 (true)) (J70 ((decide (y65.1 = (10 : UInt8)))))) (fun q69 => jp (ι := Bool) (fun J73 => br q69 (J73 (true)) (J73 ((decide (y65.1 = (13 : UInt8)))))) (fun q72 => br q72 (ck ((y65.2.reader.at_ + (1 : Int))) <| L2 ({ y65.2 with reader := { y65.2.reader with at_ := (y65.2.reader.at_ + (1 : Int)) } })) (cal (lex_reader_ahead y65.2 (Str.mk [45, 45])) fun y76 => br y76.1 (ck ((y76.2.reader.at_ + (2 : Int))) <| lp (ι := GLex) (fun L79 q78 => jp (ι := Bool × GLex) (fun J102 => jp (ι := Bool × GLex) (fun J104 => br (decide (q78.reader.at_ < (q78.reader.s.b.length : Int))) (cal (lex_reader_peek q78 (0 : Int)) fun y106 => J104 ((!decide (y106.1 = (10 : UInt8))), y106.2)) (J104 (false, q78))) (fun q103 => jp (ι := Bool × GLex) (fun J108 => br q103.1 (cal (lex_reader_ahead q103.2 (Str.mk [45, 45])) fun y110 => J108 ((!y110.1), y110.2)) (J108 (false, q103.2))) (fun q107 => J102 (q107.1, q107.2)))) (fun q101 => br q101.1 (ck ((q101.2.reader.at_ + (1 : Int))) <| L79 ({ q101.2 with reader := { q101.2.reader with at_ := (q101.2.reader.at_ + (1 : Int)) } })) (cal (lex_reader_ahead q101.2 (Str.mk [45, 45])) fun y120 => br y120.1 (ck ((y120.2.reader.at_ + (2 : Int))) <| L2 ({ y120.2 with reader := { y120.2.reader with at_ := (y120.2.reader.at_ + (2 : Int)) } })) (L2 (y120.2))))) (({ y76.2 with reader := { y76.2.reader with at_ := (y76.2.reader.at_ + (2 : Int)) } }))) (some (y76.2))))))) (some (q1))) ((a_r_))

def lex_letter (a_c : UInt8) : Option (Bool) :=
  jp (ι := Bool) (fun J2 => br (decide ((97 : UInt8) ≤ a_c)) (J2 ((decide (a_c ≤ (122 : UInt8))))) (J2 (false))) (fun q1 => jp (ι := Bool) (fun J5 => br q1 (J5 (true)) (jp (ι := Bool) (fun J8 => br (decide ((65 : UInt8) ≤ a_c)) (J8 ((decide (a_c ≤ (90 : UInt8))))) (J8 (false))) (fun q7 => J5 (q7)))) (fun q4 => some (q4)))

def lex_digit (a_c : UInt8) : Option (Bool) :=
  jp (ι := Bool) (fun J2 => br (decide ((48 : UInt8) ≤ a_c)) (J2 ((decide (a_c ≤ (57 : UInt8))))) (J2 (false))) (fun q1 => some (q1))

def lex_Word (a_s : Str) : Option (Bool) :=
  jp (ι := Bool) (fun J2 => br (decide (a_s = (Str.mk [68, 69, 70, 73, 78, 73, 84, 73, 79, 78, 83]))) (J2 ((decide (a_s = (Str.mk [68, 69, 70, 73, 78, 73, 84, 73, 79, 78, 83]))))) (br (decide (a_s = (Str.mk [69, 88, 80, 76, 73, 67, 73, 84]))) (J2 ((decide (a_s = (Str.mk [69, 88, 80, 76, 73, 67, 73, 84]))))) (br (decide (a_s = (Str.mk [73, 77, 80, 76, 73, 67, 73, 84]))) (J2 ((decide (a_s = (Str.mk [73, 77, 80, 76, 73, 67, 73, 84]))))) (br (decide (a_s = (Str.mk [65, 85, 84, 79, 77, 65, 84, 73, 67]))) (J2 ((decide (a_s = (Str.mk [65, 85, 84, 79, 77, 65, 84, 73, 67]))))) (br (decide (a_s = (Str.mk [84, 65, 71, 83]))) (J2 ((decide (a_s = (Str.mk [84, 65, 71, 83]))))) (br (decide (a_s = (Str.mk [66, 69, 71, 73, 78]))) (J2 ((decide (a_s = (Str.mk [66, 69, 71, 73, 78]))))) (br (decide (a_s = (Str.mk [69, 78, 68]))) (J2 ((decide (a_s = (Str.mk [69, 78, 68]))))) (br (decide (a_s = (Str.mk [66, 79, 79, 76, 69, 65, 78]))) (J2 ((decide (a_s = (Str.mk [66, 79, 79, 76, 69, 65, 78]))))) (br (decide (a_s = (Str.mk [73, 78, 84, 69, 71, 69, 82]))) (J2 ((decide (a_s = (Str.mk [73, 78, 84, 69, 71, 69, 82]))))) (br (decide (a_s = (Str.mk [69, 78, 85, 77, 69, 82, 65, 84, 69, 68]))) (J2 ((decide (a_s = (Str.mk [69, 78, 85, 77, 69, 82, 65, 84, 69, 68]))))) (br (decide (a_s = (Str.mk [78, 85, 76, 76]))) (J2 ((decide (a_s = (Str.mk [78, 85, 76, 76]))))) (br (decide (a_s = (Str.mk [79, 67, 84, 69, 84]))) (J2 ((decide (a_s = (Str.mk [79, 67, 84, 69, 84]))))) (br (decide (a_s = (Str.mk [83, 84, 82, 73, 78, 71]))) (J2 ((decide (a_s = (Str.mk [83, 84, 82, 73, 78, 71]))))) (br (decide (a_s = (Str.mk [85, 84, 70, 56, 83, 116, 114, 105, 110, 103]))) (J2 ((decide (a_s = (Str.mk [85, 84, 70, 56, 83, 116, 114, 105, 110, 103]))))) (br (decide (a_s = (Str.mk [83, 69, 81, 85, 69, 78, 67, 69]))) (J2 ((decide (a_s = (Str.mk [83, 69, 81, 85, 69, 78, 67, 69]))))) (br (decide (a_s = (Str.mk [83, 69, 84]))) (J2 ((decide (a_s = (Str.mk [83, 69, 84]))))) (br (decide (a_s = (Str.mk [67, 72, 79, 73, 67, 69]))) (J2 ((decide (a_s = (Str.mk [67, 72, 79, 73, 67, 69]))))) (br (decide (a_s = (Str.mk [79, 70]))) (J2 ((decide (a_s = (Str.mk [79, 70]))))) (br (decide (a_s = (Str.mk [79, 80, 84, 73, 79, 78, 65, 76]))) (J2 ((decide (a_s = (Str.mk [79, 80, 84, 73, 79, 78, 65, 76]))))) (br (decide (a_s = (Str.mk [68, 69, 70, 65, 85, 76, 84]))) (J2 ((decide (a_s = (Str.mk [68, 69, 70, 65, 85, 76, 84]))))) (br (decide (a_s = (Str.mk [83, 73, 90, 69]))) (J2 ((decide (a_s = (Str.mk [83, 73, 90, 69]))))) (br (decide (a_s = (Str.mk [77, 73, 78]))) (J2 ((decide (a_s = (Str.mk [77, 73, 78]))))) (br (decide (a_s = (Str.mk [77, 65, 88]))) (J2 ((decide (a_s = (Str.mk [77, 65, 88]))))) (br (decide (a_s = (Str.mk [84, 82, 85, 69]))) (J2 ((decide (a_s = (Str.mk [84, 82, 85, 69]))))) (J2 ((decide (a_s = (Str.mk [70, 65, 76, 83, 69]))))))))))))))))))))))))))))) (fun q1 => br q1 (some (true)) (some (false)))

def lex_lexer_name (a_l : GLex) : Option (Int × Str × GLex) :=
  cal (lex_reader_peek a_l (0 : Int)) fun y1 => lp (ι := UInt8 × GLex) (fun L3 q2 => cal (lex_letter q2.1) fun y28 => jp (ι := Bool) (fun J30 => br y28 (J30 (true)) (cal (lex_digit q2.1) fun y32 => J30 (y32))) (fun q29 => jp (ι := Bool × GLex) (fun J34 => br q29 (J34 (true, q2.2)) (jp (ι := Bool × GLex) (fun J37 => br (decide (q2.1 = (45 : UInt8))) (cal (lex_reader_peek q2.2 (1 : Int)) fun y39 => J37 ((!decide (y39.1 = (45 : UInt8))), y39.2)) (J37 (false, q2.2))) (fun q36 => J34 (q36.1, q36.2)))) (fun q33 => br q33.1 (ck ((q33.2.reader.at_ + (1 : Int))) <| cal (lex_reader_peek ({ q33.2 with reader := { q33.2.reader with at_ := (q33.2.reader.at_ + (1 : Int)) } }) (0 : Int)) fun y41 => L3 (y41.1, y41.2)) (asr (decide (0 ≤ a_l.reader.at_ ∧ a_l.reader.at_ ≤ q33.2.reader.at_ ∧ q33.2.reader.at_ ≤ (q33.2.reader.s.b.length : Int))) <| jp (ι := Bool) (fun J46 => br (decide ((60 : Int) < ((Str.mk ((q33.2.reader.s.b.take (q33.2.reader.at_).toNat).drop (a_l.reader.at_).toNat)).b.length : Int))) (J46 (true)) (ck ((((Str.mk ((q33.2.reader.s.b.take (q33.2.reader.at_).toNat).drop (a_l.reader.at_).toNat)).b.length : Int) - (1 : Int))) <| cal (getI (Str.mk ((q33.2.reader.s.b.take (q33.2.reader.at_).toNat).drop (a_l.reader.at_).toNat)).b (((Str.mk ((q33.2.reader.s.b.take (q33.2.reader.at_).toNat).drop (a_l.reader.at_).toNat)).b.length : Int) - (1 : Int))) fun y49 => J46 ((decide (y49 = (45 : UInt8)))))) (fun q45 => br q45 (some ((0 : Int), (Str.mk []), q33.2)) (cal (lex_Word (Str.mk ((q33.2.reader.s.b.take (q33.2.reader.at_).toNat).drop (a_l.reader.at_).toNat))) fun y50 => br y50 (some ((5 : Int), (Str.mk ((q33.2.reader.s.b.take (q33.2.reader.at_).toNat).drop (a_l.reader.at_).toNat)), q33.2)) (cal (getI (Str.mk ((q33.2.reader.s.b.take (q33.2.reader.at_).toNat).drop (a_l.reader.at_).toNat)).b (0 : Int)) fun y51 => br (decide (y51 ≤ (90 : UInt8))) (some ((1 : Int), (Str.mk ((q33.2.reader.s.b.take (q33.2.reader.at_).toNat).drop (a_l.reader.at_).toNat)), q33.2)) (some ((2 : Int), (Str.mk ((q33.2.reader.s.b.take (q33.2.reader.at_).toNat).drop (a_l.reader.at_).toNat)), q33.2))))))))) ((y1.1, y1.2))

def lex_lexer_number (a_l : GLex) : Option (Int × Str × GLex) :=
  cal (lex_reader_peek a_l (0 : Int)) fun y1 => jp (ι := GLex) (fun J3 => br (decide (y1.1 = (45 : UInt8))) (ck ((y1.2.reader.at_ + (1 : Int))) <| J3 ({ y1.2 with reader := { y1.2.reader with at_ := (y1.2.reader.at_ + (1 : Int)) } })) (J3 (y1.2))) (fun q2 => lp (ι := GLex) (fun L6 q5 => cal (lex_reader_peek q5 (0 : Int)) fun y30 => cal (lex_digit y30.1) fun y31 => br y31 (ck ((y30.2.reader.at_ + (1 : Int))) <| L6 ({ y30.2 with reader := { y30.2.reader with at_ := (y30.2.reader.at_ + (1 : Int)) } })) (asr (decide (0 ≤ a_l.reader.at_ ∧ a_l.reader.at_ ≤ y30.2.reader.at_ ∧ y30.2.reader.at_ ≤ (y30.2.reader.s.b.length : Int))) <| cal (getI y30.2.reader.s.b q2.reader.at_) fun y36 => cal (strconv_ParseInt (Str.mk ((y30.2.reader.s.b.take (y30.2.reader.at_).toNat).drop (a_l.reader.at_).toNat)) (10 : Int) (64 : Int)) fun y37 => jp (ι := Bool) (fun J39 => br y37.2.bad (J39 (true)) (jp (ι := Bool) (fun J42 => br (decide (y36 = (48 : UInt8))) (ck ((y30.2.reader.at_ - q2.reader.at_)) <| jp (ι := Bool) (fun J46 => br (decide ((1 : Int) < (y30.2.reader.at_ - q2.reader.at_))) (J46 (true)) (J46 ((decide (a_l.reader.at_ < q2.reader.at_))))) (fun q45 => J42 (q45))) (J42 (false))) (fun q41 => J39 (q41)))) (fun q38 => jp (ι := Bool × GLex) (fun J49 => br q38 (J49 (true, y30.2)) (cal (lex_reader_peek y30.2 (0 : Int)) fun y51 => cal (lex_letter y51.1) fun y52 => J49 (y52, y51.2))) (fun q48 => br q48.1 (some ((0 : Int), (Str.mk []), q48.2)) (some ((3 : Int), (Str.mk ((y30.2.reader.s.b.take (y30.2.reader.at_).toNat).drop (a_l.reader.at_).toNat)), q48.2)))))) ((q2)))

def lex_lexer_hex (a_l : GLex) : Option (Int × Str × GLex) :=
  ck ((a_l.reader.at_ + (1 : Int))) <| cal (lex_reader_peek ({ a_l with reader := { a_l.reader with at_ := (a_l.reader.at_ + (1 : Int)) } }) (0 : Int)) fun y2 => lp (ι := UInt8 × GLex) (fun L4 q3 => cal (lex_digit q3.1) fun y23 => jp (ι := Bool) (fun J25 => br y23 (J25 (true)) (jp (ι := Bool) (fun J28 => br (decide ((65 : UInt8) ≤ q3.1)) (J28 ((decide (q3.1 ≤ (70 : UInt8))))) (J28 (false))) (fun q27 => J25 (q27)))) (fun q24 => br q24 (ck ((q3.2.reader.at_ + (1 : Int))) <| cal (lex_reader_peek ({ q3.2 with reader := { q3.2.reader with at_ := (q3.2.reader.at_ + (1 : Int)) } }) (0 : Int)) fun y31 => L4 (y31.1, y31.2)) (asr (decide (0 ≤ (a_l.reader.at_ + (1 : Int)) ∧ (a_l.reader.at_ + (1 : Int)) ≤ q3.2.reader.at_ ∧ q3.2.reader.at_ ≤ (q3.2.reader.s.b.length : Int))) <| asr (!decide ((2 : Int) = 0)) <| jp (ι := Bool × GLex) (fun J37 => br (!decide ((((Str.mk ((q3.2.reader.s.b.take (q3.2.reader.at_).toNat).drop ((a_l.reader.at_ + (1 : Int))).toNat)).b.length : Int).tmod (2 : Int)) = (0 : Int))) (J37 (true, q3.2)) (cal (lex_reader_ahead q3.2 (Str.mk [39, 72])) fun y39 => J37 ((!y39.1), y39.2))) (fun q36 => br q36.1 (some ((0 : Int), (Str.mk []), q36.2)) (ck ((q36.2.reader.at_ + (2 : Int))) <| some ((4 : Int), (Str.mk ((q3.2.reader.s.b.take (q3.2.reader.at_).toNat).drop ((a_l.reader.at_ + (1 : Int))).toNat)), { q36.2 with reader := { q36.2.reader with at_ := (q36.2.reader.at_ + (2 : Int)) } })))))) ((y2.1, y2.2))

def utf8_word_Lbyte (a_s : (List UInt8)) : Option (UInt64) :=
  cal (getI a_s (0 : Int)) fun y1 => cal (getI a_s (1 : Int)) fun y2 => asr (Nat.ble (8 : UInt64).toNat 64) <| cal (getI a_s (2 : Int)) fun y4 => asr (Nat.ble (16 : UInt64).toNat 64) <| cal (getI a_s (3 : Int)) fun y6 => asr (Nat.ble (24 : UInt64).toNat 64) <| cal (getI a_s (4 : Int)) fun y8 => asr (Nat.ble (32 : UInt64).toNat 64) <| cal (getI a_s (5 : Int)) fun y10 => asr (Nat.ble (40 : UInt64).toNat 64) <| cal (getI a_s (6 : Int)) fun y12 => asr (Nat.ble (48 : UInt64).toNat 64) <| cal (getI a_s (7 : Int)) fun y14 => asr (Nat.ble (56 : UInt64).toNat 64) <| some ((((((((y1.toUInt64 ||| (shl64 y2.toUInt64 (8 : UInt64).toNat)) ||| (shl64 y4.toUInt64 (16 : UInt64).toNat)) ||| (shl64 y6.toUInt64 (24 : UInt64).toNat)) ||| (shl64 y8.toUInt64 (32 : UInt64).toNat)) ||| (shl64 y10.toUInt64 (40 : UInt64).toNat)) ||| (shl64 y12.toUInt64 (48 : UInt64).toNat)) ||| (shl64 y14.toUInt64 (56 : UInt64).toNat)))

def utf8_Valid (a_p : (List UInt8)) : Option (Bool) :=
  asr (decide (0 ≤ (a_p.length : Int) ∧ (a_p.length : Int) ≤ (a_p.length : Int))) <| lp (ι := (List UInt8)) (fun L3 q2 => br (decide ((0 : Int) < (q2.length : Int))) (cal (getI q2 (0 : Int)) fun y99 => br (decide (y99 < (128 : UInt8))) (asr (decide (0 ≤ (1 : Int) ∧ (1 : Int) ≤ (q2.length : Int) ∧ (q2.length : Int) ≤ (q2.length : Int))) <| jp (ι := Bool) (fun J102 => br (decide ((8 : Int) < (((q2.take ((q2.length : Int)).toNat).drop ((1 : Int)).toNat).length : Int))) (cal (utf8_word_Lbyte ((q2.take ((q2.length : Int)).toNat).drop ((1 : Int)).toNat)) fun y104 => J102 ((decide ((y104 &&& (9259542123273814144 : UInt64)) = (0 : UInt64))))) (J102 (false))) (fun q101 => jp (ι := (List UInt8)) (fun J106 => br q101 (asr (decide (0 ≤ (8 : Int) ∧ (8 : Int) ≤ (((q2.take ((q2.length : Int)).toNat).drop ((1 : Int)).toNat).length : Int) ∧ (((q2.take ((q2.length : Int)).toNat).drop ((1 : Int)).toNat).length : Int) ≤ (((q2.take ((q2.length : Int)).toNat).drop ((1 : Int)).toNat).length : Int))) <| jp (ι := Bool) (fun J109 => br (decide ((16 : Int) < (((((q2.take ((q2.length : Int)).toNat).drop ((1 : Int)).toNat).take ((((q2.take ((q2.length : Int)).toNat).drop ((1 : Int)).toNat).length : Int)).toNat).drop ((8 : Int)).toNat).length : Int))) (asr (decide (0 ≤ (8 : Int) ∧ (8 : Int) ≤ (((((q2.take ((q2.length : Int)).toNat).drop ((1 : Int)).toNat).take ((((q2.take ((q2.length : Int)).toNat).drop ((1 : Int)).toNat).length : Int)).toNat).drop ((8 : Int)).toNat).length : Int) ∧ (((((q2.take ((q2.length : Int)).toNat).drop ((1 : Int)).toNat).take ((((q2.take ((q2.length : Int)).toNat).drop ((1 : Int)).toNat).length : Int)).toNat).drop ((8 : Int)).toNat).length : Int) ≤ (((((q2.take ((q2.length : Int)).toNat).drop ((1 : Int)).toNat).take ((((q2.take ((q2.length : Int)).toNat).drop ((1 : Int)).toNat).length : Int)).toNat).drop ((8 : Int)).toNat).length : Int))) <| cal (utf8_word_Lbyte ((((q2.take ((q2.length : Int)).toNat).drop ((1 : Int)).toNat).take ((((q2.take ((q2.length : Int)).toNat).drop ((1 : Int)).toNat).length : Int)).toNat).drop ((8 : Int)).toNat)) fun y112 => cal (utf8_word_Lbyte ((((((q2.take ((q2.length : Int)).toNat).drop ((1 : Int)).toNat).take ((((q2.take ((q2.length : Int)).toNat).drop ((1 : Int)).toNat).length : Int)).toNat).drop ((8 : Int)).toNat).take ((((((q2.take ((q2.length : Int)).toNat).drop ((1 : Int)).toNat).take ((((q2.take ((q2.length : Int)).toNat).drop ((1 : Int)).toNat).length : Int)).toNat).drop ((8 : Int)).toNat).length : Int)).toNat).drop ((8 : Int)).toNat)) fun y113 => J109 ((decide (((y112 ||| y113) &&& (9259542123273814144 : UInt64)) = (0 : UInt64))))) (J109 (false))) (fun q108 => br q108 (asr (decide (0 ≤ (16 : Int) ∧ (16 : Int) ≤ (((((q2.take ((q2.length : Int)).toNat).drop ((1 : Int)).toNat).take ((((q2.take ((q2.length : Int)).toNat).drop ((1 : Int)).toNat).length : Int)).toNat).drop ((8 : Int)).toNat).length : Int) ∧ (((((q2.take ((q2.length : Int)).toNat).drop ((1 : Int)).toNat).take ((((q2.take ((q2.length : Int)).toNat).drop ((1 : Int)).toNat).length : Int)).toNat).drop ((8 : Int)).toNat).length : Int) ≤ (((((q2.take ((q2.length : Int)).toNat).drop ((1 : Int)).toNat).take ((((q2.take ((q2.length : Int)).toNat).drop ((1 : Int)).toNat).length : Int)).toNat).drop ((8 : Int)).toNat).length : Int))) <| lp (ι := (List UInt8)) (fun L116 q115 => jp (ι := Bool) (fun J129 => br (decide ((32 : Int) < (q115.length : Int))) (asr (decide (0 ≤ (8 : Int) ∧ (8 : Int) ≤ (q115.length : Int) ∧ (q115.length : Int) ≤ (q115.length : Int))) <| asr (decide (0 ≤ (16 : Int) ∧ (16 : Int) ≤ (q115.length : Int) ∧ (q115.length : Int) ≤ (q115.length : Int))) <| asr (decide (0 ≤ (24 : Int) ∧ (24 : Int) ≤ (q115.length : Int) ∧ (q115.length : Int) ≤ (q115.length : Int))) <| cal (utf8_word_Lbyte q115) fun y134 => cal (utf8_word_Lbyte ((q115.take ((q115.length : Int)).toNat).drop ((8 : Int)).toNat)) fun y135 => cal (utf8_word_Lbyte ((q115.take ((q115.length : Int)).toNat).drop ((16 : Int)).toNat)) fun y136 => cal (utf8_word_Lbyte ((q115.take ((q115.length : Int)).toNat).drop ((24 : Int)).toNat)) fun y137 => J129 ((decide ((((y134 ||| y135) ||| (y136 ||| y137)) &&& (9259542123273814144 : UInt64)) = (0 : UInt64))))) (J129 (false))) (fun q128 => br q128 (asr (decide (0 ≤ (32 : Int) ∧ (32 : Int) ≤ (q115.length : Int) ∧ (q115.length : Int) ≤ (q115.length : Int))) <| L116 (((q115.take ((q115.length : Int)).toNat).drop ((32 : Int)).toNat))) (J106 (q115)))) ((((((((q2.take ((q2.length : Int)).toNat).drop ((1 : Int)).toNat).take ((((q2.take ((q2.length : Int)).toNat).drop ((1 : Int)).toNat).length : Int)).toNat).drop ((8 : Int)).toNat).take ((((((q2.take ((q2.length : Int)).toNat).drop ((1 : Int)).toNat).take ((((q2.take ((q2.length : Int)).toNat).drop ((1 : Int)).toNat).length : Int)).toNat).drop ((8 : Int)).toNat).length : Int)).toNat).drop ((16 : Int)).toNat)))) (J106 (((((q2.take ((q2.length : Int)).toNat).drop ((1 : Int)).toNat).take ((((q2.take ((q2.length : Int)).toNat).drop ((1 : Int)).toNat).length : Int)).toNat).drop ((8 : Int)).toNat))))) (J106 (((q2.take ((q2.length : Int)).toNat).drop ((1 : Int)).toNat)))) (fun q105 => L3 (q105)))) (asr (Nat.ble (4 : UInt64).toNat 8) <| asr (Nat.blt (shr8 (tab1 y99) (4 : UInt64).toNat).toNat 16) <| br (decide ((((tab1 y99) &&& (7 : UInt8)).toNat : Int) = (2 : Int))) (jp (ι := Bool) (fun J144 => br (decide ((q2.length : Int) < (2 : Int))) (J144 (true)) (cal (getI q2 (1 : Int)) fun y146 => J144 ((decide (y146 < (tab2 (shr8 (tab1 y99) (4 : UInt64).toNat)).lo))))) (fun q143 => jp (ι := Bool) (fun J148 => br q143 (J148 (true)) (cal (getI q2 (1 : Int)) fun y150 => J148 ((decide ((tab2 (shr8 (tab1 y99) (4 : UInt64).toNat)).hi < y150))))) (fun q147 => br q147 (some (false)) (asr (decide (0 ≤ (2 : Int) ∧ (2 : Int) ≤ (q2.length : Int) ∧ (q2.length : Int) ≤ (q2.length : Int))) <| L3 (((q2.take ((q2.length : Int)).toNat).drop ((2 : Int)).toNat)))))) (br (decide ((((tab1 y99) &&& (7 : UInt8)).toNat : Int) = (3 : Int))) (jp (ι := Bool) (fun J153 => br (decide ((q2.length : Int) < (3 : Int))) (J153 (true)) (cal (getI q2 (1 : Int)) fun y155 => J153 ((decide (y155 < (tab2 (shr8 (tab1 y99) (4 : UInt64).toNat)).lo))))) (fun q152 => jp (ι := Bool) (fun J157 => br q152 (J157 (true)) (cal (getI q2 (1 : Int)) fun y159 => J157 ((decide ((tab2 (shr8 (tab1 y99) (4 : UInt64).toNat)).hi < y159))))) (fun q156 => jp (ι := Bool) (fun J161 => br q156 (J161 (true)) (cal (getI q2 (2 : Int)) fun y163 => J161 ((decide (y163 < (128 : UInt8)))))) (fun q160 => jp (ι := Bool) (fun J165 => br q160 (J165 (true)) (cal (getI q2 (2 : Int)) fun y167 => J165 ((decide ((191 : UInt8) < y167))))) (fun q164 => br q164 (some (false)) (asr (decide (0 ≤ (3 : Int) ∧ (3 : Int) ≤ (q2.length : Int) ∧ (q2.length : Int) ≤ (q2.length : Int))) <| L3 (((q2.take ((q2.length : Int)).toNat).drop ((3 : Int)).toNat)))))))) (br (decide ((((tab1 y99) &&& (7 : UInt8)).toNat : Int) = (4 : Int))) (jp (ι := Bool) (fun J170 => br (decide ((q2.length : Int) < (4 : Int))) (J170 (true)) (cal (getI q2 (1 : Int)) fun y172 => J170 ((decide (y172 < (tab2 (shr8 (tab1 y99) (4 : UInt64).toNat)).lo))))) (fun q169 => jp (ι := Bool) (fun J174 => br q169 (J174 (true)) (cal (getI q2 (1 : Int)) fun y176 => J174 ((decide ((tab2 (shr8 (tab1 y99) (4 : UInt64).toNat)).hi < y176))))) (fun q173 => jp (ι := Bool) (fun J178 => br q173 (J178 (true)) (cal (getI q2 (2 : Int)) fun y180 => J178 ((decide (y180 < (128 : UInt8)))))) (fun q177 => jp (ι := Bool) (fun J182 => br q177 (J182 (true)) (cal (getI q2 (2 : Int)) fun y184 => J182 ((decide ((191 : UInt8) < y184))))) (fun q181 => jp (ι := Bool) (fun J186 => br q181 (J186 (true)) (cal (getI q2 (3 : Int)) fun y188 => J186 ((decide (y188 < (128 : UInt8)))))) (fun q185 => jp (ι := Bool) (fun J190 => br q185 (J190 (true)) (cal (getI q2 (3 : Int)) fun y192 => J190 ((decide ((191 : UInt8) < y192))))) (fun q189 => br q189 (some (false)) (asr (decide (0 ≤ (4 : Int) ∧ (4 : Int) ≤ (q2.length : Int) ∧ (q2.length : Int) ≤ (q2.length : Int))) <| L3 (((q2.take ((q2.length : Int)).toNat).drop ((4 : Int)).toNat)))))))))) (some (false)))))) (some (true))) (((a_p.take ((a_p.length : Int)).toNat)))

def lex_lexer_text (a_l : GLex) : Option (Int × Str × GLex) :=
  ck ((a_l.reader.at_ + (1 : Int))) <| lp (ι := (List UInt8) × GLex) (fun L3 q2 => br (decide (q2.2.reader.at_ < (q2.2.reader.s.b.length : Int))) (cal (lex_reader_peek q2.2 (0 : Int)) fun y19 => jp (ι := GLex) (fun J21 => br (decide (y19.1 = (34 : UInt8))) (ck ((y19.2.reader.at_ + (1 : Int))) <| cal (lex_reader_peek ({ y19.2 with reader := { y19.2.reader with at_ := (y19.2.reader.at_ + (1 : Int)) } }) (0 : Int)) fun y23 => br (!decide (y23.1 = (34 : UInt8))) (cal (utf8_Valid q2.1) fun y24 => br (!y24) (some ((0 : Int), (Str.mk []), y23.2)) (some ((7 : Int), (Str.mk q2.1), y23.2))) (J21 (y23.2))) (J21 (y19.2))) (fun q20 => cal (lex_reader_peek q20 (0 : Int)) fun y25 => asr (Nat.ble (q2.1.length + ([y25.1] : (List UInt8)).length) 68719476736) <| ck ((y25.2.reader.at_ + (1 : Int))) <| L3 ((q2.1 ++ ([y25.1] : (List UInt8))), { y25.2 with reader := { y25.2.reader with at_ := (y25.2.reader.at_ + (1 : Int)) } }))) (some ((0 : Int), (Str.mk []), q2.2))) ((([] : (List UInt8)), { a_l with reader := { a_l.reader with at_ := (a_l.reader.at_ + (1 : Int)) } }))

def lex_lexer_sign (a_l : GLex) : Option (Int × Str × GLex) :=
  lp (ι := Int × GLex) (fun L3 q2 => br (decide (q2.1 < (([(Str.mk [58, 58, 61]), (Str.mk [46, 46, 46]), (Str.mk [46, 46]), (Str.mk [91, 91]), (Str.mk [93, 93]), (Str.mk [123]), (Str.mk [125]), (Str.mk [91]), (Str.mk [93]), (Str.mk [40]), (Str.mk [41]), (Str.mk [44]), (Str.mk [58])] : (List Str)).length : Int))) (cal (getI ([(Str.mk [58, 58, 61]), (Str.mk [46, 46, 46]), (Str.mk [46, 46]), (Str.mk [91, 91]), (Str.mk [93, 93]), (Str.mk [123]), (Str.mk [125]), (Str.mk [91]), (Str.mk [93]), (Str.mk [40]), (Str.mk [41]), (Str.mk [44]), (Str.mk [58])] : (List Str)) q2.1) fun y8 => cal (lex_reader_ahead q2.2 y8) fun y9 => br y9.1 (ck ((y9.2.reader.at_ + (y8.b.length : Int))) <| some ((6 : Int), y8, { y9.2 with reader := { y9.2.reader with at_ := (y9.2.reader.at_ + (y8.b.length : Int)) } })) (ck ((q2.1 + (1 : Int))) <| L3 ((q2.1 + (1 : Int)), y9.2))) (some ((0 : Int), (Str.mk []), q2.2))) (((0 : Int), a_l))

def lex_lexer_token (a_l : GLex) : Option (Int × Str × GLex) :=
  cal (lex_reader_peek a_l (0 : Int)) fun y1 => cal (lex_letter y1.1) fun y2 => br y2 (cal (lex_lexer_name y1.2) fun y3 => some (y3.1, y3.2.1, y3.2.2)) (cal (lex_digit y1.1) fun y4 => jp (ι := Bool × GLex) (fun J6 => br y4 (J6 (true, y1.2)) (jp (ι := Bool × GLex) (fun J9 => br (decide (y1.1 = (45 : UInt8))) (cal (lex_reader_peek y1.2 (1 : Int)) fun y11 => cal (lex_digit y11.1) fun y12 => J9 (y12, y11.2)) (J9 (false, y1.2))) (fun q8 => J6 (q8.1, q8.2)))) (fun q5 => br q5.1 (cal (lex_lexer_number q5.2) fun y13 => some (y13.1, y13.2.1, y13.2.2)) (br (decide (y1.1 = (39 : UInt8))) (cal (lex_lexer_hex q5.2) fun y14 => some (y14.1, y14.2.1, y14.2.2)) (br (decide (y1.1 = (34 : UInt8))) (cal (lex_lexer_text q5.2) fun y15 => some (y15.1, y15.2.1, y15.2.2)) (cal (lex_lexer_sign q5.2) fun y16 => some (y16.1, y16.2.1, y16.2.2))))))

def lex_Tokens (a_text : Str) : Option ((List GTok) × Int × Int) :=
  br (decide ((8000 : Int) < (a_text.b.length : Int))) (some (([] : (List GTok)), (0 : Int), (5 : Int))) (cal (lex_reader_skip (GLex.mk (GLrd.mk a_text (0 : Int)))) fun y2 => lp (ι := (List GTok) × GLex) (fun L4 q3 => br (decide (q3.2.reader.at_ < (a_text.b.length : Int))) (cal (lex_lexer_token q3.2) fun y13 => br (decide (y13.1 = (0 : Int))) (some (([] : (List GTok)), q3.2.reader.at_, (6 : Int))) (asr (Nat.ble (q3.1.length + ([(GTok.mk y13.1 y13.2.1 q3.2.reader.at_)] : (List GTok)).length) 68719476736) <| cal (lex_reader_skip y13.2.2) fun y17 => L4 ((q3.1 ++ ([(GTok.mk y13.1 y13.2.1 q3.2.reader.at_)] : (List GTok))), y17))) (asr (Nat.ble (q3.1.length + ([(GTok.mk (0 : Int) (Str.mk []) (a_text.b.length : Int))] : (List GTok)).length) 68719476736) <| some ((q3.1 ++ ([(GTok.mk (0 : Int) (Str.mk []) (a_text.b.length : Int))] : (List GTok))), (0 : Int), (0 : Int)))) ((([] : (List GTok)), y2)))
end Go.Proofs.YtbinnmophpfmlaaDoor


namespace Go.Sy
section tot
variable {α β ι : Type}
def T (R : β → Prop) (o : Option β) : Prop := ∃ r, o = some r ∧ R r
theorem T.some {R : β → Prop} {r : β} (h : R r) : T R (some r) := ⟨r, rfl, h⟩
theorem T.mono {R R' : β → Prop} {o : Option β} (h : T R o) (k : ∀ r, R r → R' r) : T R' o := by
  obtain ⟨r, h1, h2⟩ := h; exact ⟨r, h1, k r h2⟩
theorem T.cal {Q : α → Prop} {R : β → Prop} {m : Option α} {k : α → Option β} (h : T Q m) (hk : ∀ y, m = Option.some y → Q y → T R (k y)) : T R (cal m k) := by
  obtain ⟨y, h1, h2⟩ := h
  subst h1
  exact hk y rfl h2
theorem T.eq {R : β → Prop} {m : Option α} {k : α → Option β} {y : α} (h : m = Option.some y) (hk : T R (k y)) : T R (Sy.cal m k) := by subst h; exact hk
theorem bI64_of {x : Int} (h : inI64 x) : bI64 x = true := by
  unfold inI64 at h
  cases x with
  | ofNat n =>
    simp only [Int.ofNat_eq_natCast] at h
    exact Nat.ble_eq_true_of_le (by omega)
  | negSucc n => exact Nat.ble_eq_true_of_le (by omega)
theorem T.ck {R : β → Prop} {x : Int} {k : Option β} (hx : -9223372036854775808 ≤ x ∧ x ≤ 9223372036854775807) (h : T R k) : T R (ck x k) := by
  unfold Sy.ck; rw [bI64_of hx]; exact h
theorem T.asr {R : β → Prop} {b : Bool} {k : Option β} (hb : b = true) (h : T R k) : T R (asr b k) := by subst hb; exact h
theorem T.asd {R : β → Prop} {p : Prop} [Decidable p] {k : Option β} (hb : p) (h : T R k) : T R (Sy.asr (decide p) k) := T.asr (decide_eq_true hb) h
theorem T.abl {R : β → Prop} {a b : Nat} {k : Option β} (hb : a ≤ b) (h : T R k) : T R (Sy.asr (Nat.ble a b) k) := T.asr (Nat.ble_eq_true_of_le hb) h
theorem T.br {R : β → Prop} {b : Bool} {t e : Option β} (ht : b = true → T R t) (he : b = false → T R e) : T R (br b t e) := by
  cases b with
  | true => exact ht rfl
  | false => exact he rfl
theorem T.jp (Q : ι → Prop) {R : β → Prop} {B : (ι → Option β) → Option β} {K : ι → Option β} (hB : ∀ J, (∀ i, Q i → T R (J i)) → T R (B J)) (hK : ∀ i, Q i → T R (K i)) : T R (jp B K) := hB K hK
theorem T.jp0 {R : β → Prop} {B : (ι → Option β) → Option β} {K : ι → Option β} (h : T R (B K)) : T R (Sy.jp B K) := h
theorem T.lp (I : ι → Prop) (μ : ι → Nat) {R : β → Prop} {F : (ι → Option β) → ι → Option β} {i0 : ι} (h0 : I i0) (hμ : μ i0 < 1000000000000000000) (h : ∀ (L : ι → Option β) i, I i → (∀ j, I j → μ j < μ i → T R (L j)) → T R (F L i)) : T R (lp F i0) := by
  have key : ∀ n i, I i → μ i < n → T R (lpN F n i) := by
    intro n
    induction n with
    | zero => intro i _ hn; omega
    | succ n ih => intro i hi hn; exact h (lpN F n) i hi fun j hj hl => ih j hj (by omega)
  unfold Sy.lp fuel
  exact key _ _ h0 hμ
theorem getI_some {l : List α} {i : Int} (h0 : 0 ≤ i) (h1 : i < l.length) : getI l i = some (l[i.toNat]'(by omega)) := by
  unfold getI
  cases i with
  | ofNat n => simp only [Int.ofNat_eq_natCast] at h1; simp
  | negSucc n => omega
theorem T.get {R : β → Prop} {l : List α} {i : Int} {k : α → Option β} (h0 : 0 ≤ i) (h1 : i < l.length) (hk : ∀ y, l[i.toNat]? = Option.some y → T R (k y)) : T R (Sy.cal (getI l i) k) :=
  T.eq (getI_some h0 h1) (hk _ (List.getElem?_eq_getElem (by omega)))
theorem T.of {o : Option β} {R : β → Prop} {x : β} (h : o = Option.some x) (hx : R x) : T R o := ⟨x, h, hx⟩
theorem T.get? {o : Option β} {R : β → Prop} (h : T R o) {r : β} (e : o = Option.some r) : R r := by
  obtain ⟨r', h1, h2⟩ := h; rw [h1] at e; cases e; exact h2
end tot
end Go.Sy


namespace Go.Proofs.YtbinnmophpfmlaaDoor
open Go.Sy
set_option linter.unusedVariables false

theorem at_tot (s : Str) (i : Int) : T (fun r => r = (if 0 ≤ i then (s.b[i.toNat]?).getD 0 else 0)) (r04_at s i) := by
  unfold r04_at
  refine T.jp (fun q => q = decide (¬ (0 ≤ i ∧ i < s.b.length))) (fun J h => ?_) (fun q hq => ?_)
  · refine T.br (fun h1 => h _ ?_) (fun h1 => h _ ?_)
    · have := of_decide_eq_true h1; simp; omega
    · have := of_decide_eq_false h1
      by_cases h2 : (s.b.length : Int) ≤ i <;> simp [h2] <;> omega
  · subst hq
    refine T.br (fun h1 => T.some ?_) (fun h1 => ?_)
    · have h2 := of_decide_eq_true h1
      split
      · rename_i h3
        rw [List.getElem?_eq_none (by omega)]; rfl
      · rfl
    · have h2 := of_decide_eq_false h1
      refine T.get (by omega) (by omega) fun y hy => T.some ?_
      rw [if_pos (by omega), hy]; rfl

def isLetter (c : UInt8) : Bool := (decide (97 ≤ c) && decide (c ≤ 122)) || (decide (65 ≤ c) && decide (c ≤ 90))
def isDigit (c : UInt8) : Bool := decide (48 ≤ c) && decide (c ≤ 57)
theorem letter_eq (c : UInt8) : r04_letter c = some (isLetter c) := by
  unfold r04_letter isLetter jp br
  cases decide (97 ≤ c) <;> cases decide (c ≤ 122) <;> cases decide (65 ≤ c) <;> cases decide (c ≤ 90) <;> rfl
theorem digit_eq (c : UInt8) : r04_digit c = some (isDigit c) := by
  unfold r04_digit isDigit jp br
  cases decide (48 ≤ c) <;> cases decide (c ≤ 57) <;> rfl

theorem white_tot (s : Str) (i : Int) (h0 : 0 ≤ i) (h1 : i ≤ s.b.length) (hl : s.b.length ≤ 1000000) : T (fun r => i ≤ r ∧ r ≤ s.b.length) (r04_white s i) := by
  unfold r04_white
  refine T.lp (fun k => i ≤ k ∧ k ≤ s.b.length) (fun k => (s.b.length - k).toNat) ⟨Int.le_refl _, h1⟩ (by omega) fun L k hk hL => ?_
  refine T.br (fun hb => ?_) (fun _ => T.some hk)
  have hb := of_decide_eq_true hb
  refine T.get (by omega) hb fun y hy => ?_
  refine T.jp (fun _ => True) (fun J h => T.br (fun _ => h _ trivial) fun _ => T.get (by omega) hb fun _ _ => h _ trivial) fun q _ => ?_
  refine T.jp (fun _ => True) (fun J h => T.br (fun _ => h _ trivial) fun _ => T.get (by omega) hb fun _ _ => h _ trivial) fun q _ => ?_
  refine T.jp (fun _ => True) (fun J h => T.br (fun _ => h _ trivial) fun _ => T.get (by omega) hb fun _ _ => h _ trivial) fun q _ => ?_
  refine T.br (fun _ => T.ck (by omega) (hL _ (by omega) (by omega))) fun _ => ?_
  refine T.get (by omega) hb fun y hy => ?_
  refine T.jp (fun q => q = true → k + 2 ≤ s.b.length) (fun J h => T.br (fun _ => T.ck (by omega) (T.cal (at_tot s (k + 1)) fun y _ hy => h _ fun hq => ?_)) fun _ => h _ (fun h => by cases h)) fun q hq => ?_
  · have := of_decide_eq_true hq
    subst this
    rw [if_pos (by omega)] at hy
    rcases Nat.lt_or_ge (k + 1).toNat s.b.length with h3 | h3
    · omega
    · rw [List.getElem?_eq_none h3] at hy; cases hy
  refine T.br (fun hb2 => T.ck (by omega) ?_) (fun _ => T.some hk)
  have hq' := hq hb2
  refine T.lp (fun j => k + 2 ≤ j ∧ j ≤ s.b.length) (fun j => (s.b.length - j).toNat) ⟨Int.le_refl _, hq'⟩ (by omega) fun L2 j hj hL2 => ?_
  refine T.jp (fun q => q = true → j < s.b.length) (fun J h => T.br (fun h2 => ?_) fun _ => h _ (fun h => by cases h)) fun q hq2 => ?_
  · have h2 := of_decide_eq_true h2
    exact T.get (by omega) h2 fun _ _ => h _ fun _ => h2
  refine T.br (fun h2 => ?_) (fun _ => hL _ (by omega) (by omega))
  have h2 := hq2 h2
  refine T.get (by omega) h2 fun y hy => ?_
  refine T.jp (fun q => q = true → j + 2 ≤ s.b.length) (fun J h => T.br (fun _ => T.ck (by omega) (T.cal (at_tot s (j + 1)) fun y _ hy => h _ fun hq => ?_)) fun _ => h _ (fun h => by cases h)) fun q hq3 => ?_
  · have := of_decide_eq_true hq
    subst this
    rw [if_pos (by omega)] at hy
    rcases Nat.lt_or_ge (j + 1).toNat s.b.length with h3 | h3
    · omega
    · rw [List.getElem?_eq_none h3] at hy; cases hy
  refine T.br (fun h3 => T.ck (by omega) ?_) (fun _ => T.ck (by omega) (hL2 _ (by omega) (by omega)))
  have h3 := hq3 h3
  exact hL _ (by omega) (by omega)

theorem name_tot (s : Str) (i : Int) (h0 : 0 ≤ i) (h1 : i < s.b.length) (hl : s.b.length ≤ 1000000) (hc : ∀ y, s.b[i.toNat]? = some y → isLetter y = true) : T (fun r => r = -1 ∨ (i < r ∧ r ≤ s.b.length)) (r04_name s i) := by
  unfold r04_name
  refine T.lp (fun k => i ≤ k ∧ k ≤ s.b.length) (fun k => (s.b.length - k).toNat) ⟨Int.le_refl _, by omega⟩ (by omega) fun L k hk hL => ?_
  refine T.jp (fun q => (q = true → k < s.b.length) ∧ (q = false → i < k)) (fun J h => ?_) fun q hq => ?_
  · refine T.br (fun hb => ?_) (fun hb => h _ ⟨(fun h => by cases h), fun _ => by have := of_decide_eq_false hb; omega⟩)
    have hb := of_decide_eq_true hb
    refine T.get (by omega) hb fun y hy => ?_
    refine T.eq (letter_eq y) ?_
    refine T.jp (fun q => isLetter y = true → q = true) (fun J2 h2 => ?_) fun q hq => ?_
    · exact T.br (fun _ => h2 _ fun _ => rfl) fun hn => T.get (by omega) hb fun y2 _ => T.eq (digit_eq y2) (h2 _ fun hy => by rw [hn] at hy; cases hy)
    refine T.jp (fun q => isLetter y = true → q = true) (fun J2 h2 => ?_) fun q hq => ?_
    · refine T.br (fun _ => h2 _ fun _ => rfl) fun hn => T.get (by omega) hb fun y2 _ => ?_
      have hno : ¬ isLetter y = true := fun hy => by rw [hq hy] at hn; cases hn
      refine T.jp (fun _ => True) (fun J3 h3 => T.br (fun _ => T.ck (by omega) (T.cal (at_tot s _) fun _ _ _ => h3 _ trivial)) fun _ => h3 _ trivial) fun q _ => h2 _ fun hy => absurd hy hno
    · refine h _ ⟨fun _ => hb, fun hn => ?_⟩
      rcases Int.lt_or_eq_of_le hk.1 with h2 | h2
      · exact h2
      · subst h2
        have := hq (hc y hy)
        rw [this] at hn; cases hn
  refine T.br (fun hb => T.ck (by have := hq.1 hb; omega) (hL _ (by have := hq.1 hb; omega) (by have := hq.1 hb; omega))) fun hb => ?_
  have hlt := hq.2 hb
  refine T.ck (by omega) (T.get (by omega) (by omega) fun y _ => ?_)
  refine T.jp (fun _ => True) (fun J h => T.br (fun _ => h _ trivial) fun _ => T.ck (by omega) (h _ trivial)) fun q _ => ?_
  exact T.br (fun _ => T.some (.inl rfl)) fun _ => T.some (.inr ⟨hlt, hk.2⟩)
end Go.Proofs.YtbinnmophpfmlaaDoor


namespace Go.Proofs.YtbinnmophpfmlaaDoor
open Go.Sy
set_option linter.unusedVariables false

theorem snocInd {α : Type} {P : List α → Prop} (h0 : P []) (h1 : ∀ l a, P l → P (l ++ [a])) (l : List α) : P l := by
  have : ∀ m : List α, P m.reverse := by
    intro m
    induction m with
    | nil => exact h0
    | cons a m ih => rw [List.reverse_cons]; exact h1 _ _ ih
  have h := this l.reverse
  rwa [List.reverse_reverse] at h

def dval (l : List UInt8) : Nat := l.foldl (fun v d => 10 * v + (d.toNat - 48)) 0
def uval (l : List UInt8) : UInt64 := l.foldl (fun v d => 10 * v + (d - 48).toUInt64) 0
theorem digit_range {d : UInt8} (h : isDigit d = true) : 48 ≤ d.toNat ∧ d.toNat ≤ 57 := by
  unfold isDigit at h
  simp only [Bool.and_eq_true, decide_eq_true_eq] at h
  have h1 := UInt8.le_iff_toNat_le.1 h.1
  have h2 := UInt8.le_iff_toNat_le.1 h.2
  simp at h1 h2
  omega
theorem digit_u {d : UInt8} (h : isDigit d = true) : (d - 48).toUInt64.toNat = d.toNat - 48 := by
  have h1 := digit_range h
  have h2 := d.toNat_lt
  have h3 : (48 : UInt8).toNat = 48 := rfl
  rw [UInt8.toNat_toUInt64, UInt8.toNat_sub, h3]
  omega
theorem dval_snoc (l : List UInt8) (d : UInt8) : dval (l ++ [d]) = 10 * dval l + (d.toNat - 48) := by simp [dval]
theorem uval_snoc (l : List UInt8) (d : UInt8) : uval (l ++ [d]) = 10 * uval l + (d - 48).toUInt64 := by simp [uval]
def digs (l : List UInt8) : Prop := ∀ d ∈ l, isDigit d = true
theorem digs_snoc {l : List UInt8} {d : UInt8} (h : digs (l ++ [d])) : digs l ∧ isDigit d = true :=
  ⟨fun x hx => h x (List.mem_append_left _ hx), h d (List.mem_append_right _ (List.mem_singleton.2 rfl))⟩
theorem dval_lt (l : List UInt8) : digs l → dval l < 10 ^ l.length := by
  refine snocInd (P := fun l => digs l → dval l < 10 ^ l.length) (fun _ => by simp [dval]) (fun l d ih h => ?_) l
  obtain ⟨h1, h2⟩ := digs_snoc h
  have h3 := ih h1
  have h4 := digit_range h2
  rw [dval_snoc, List.length_append, List.length_singleton, Nat.pow_succ]
  omega
theorem pow19 {n : Nat} (h : n ≤ 19) : 10 ^ n ≤ 10000000000000000000 := by
  have := Nat.pow_le_pow_right (show 0 < 10 by omega) h
  simpa using this
theorem uval_dval (l : List UInt8) : digs l → l.length ≤ 19 → (uval l).toNat = dval l := by
  refine snocInd (P := fun l => digs l → l.length ≤ 19 → (uval l).toNat = dval l) (fun _ _ => by simp [dval, uval]) (fun l d ih h hl => ?_) l
  obtain ⟨h1, h2⟩ := digs_snoc h
  rw [List.length_append, List.length_singleton] at hl
  have h3 := ih h1 (by omega)
  have h4 := digit_range h2
  have h5 := dval_lt (l ++ [d]) h
  rw [List.length_append, List.length_singleton] at h5
  have h6 := pow19 hl
  rw [dval_snoc] at h5
  rw [uval_snoc, dval_snoc, UInt64.toNat_add, UInt64.toNat_mul, h3, digit_u h2]
  have h7 : (10 : UInt64).toNat = 10 := rfl
  rw [h7]
  omega
theorem dval_pos {d : UInt8} {l : List UInt8} (h : digs (d :: l)) (hd : d ≠ 48) : 1 ≤ dval (d :: l) := by
  refine snocInd (P := fun l => digs (d :: l) → 1 ≤ dval (d :: l)) (fun h => ?_) (fun l e ih h => ?_) l h
  · have h1 := digit_range (h d (List.mem_singleton.2 rfl))
    have h2 : d.toNat ≠ 48 := fun e => hd (UInt8.toNat_inj.1 e)
    have e : dval [d] = d.toNat - 48 := by simp [dval]
    omega
  · have h2 := ih (digs_snoc (l := d :: l) h).1
    have e1 := dval_snoc (d :: l) e
    have e2 : d :: (l ++ [e]) = d :: l ++ [e] := rfl
    rw [e2, e1]; omega

def NumOk (b : List UInt8) : Prop := ∃ ds, digs ds ∧ ds ≠ [] ∧ ds.length ≤ 19 ∧ ((b = ds ∧ dval ds < 9223372036854775808) ∨ (b = 45 :: ds ∧ 1 ≤ dval ds ∧ dval ds ≤ 9223372036854775808))

theorem seg_snoc {l : List UInt8} {f k : Nat} {y : UInt8} (hf : f ≤ k) (hy : l[k]? = some y) : (l.take (k + 1)).drop f = (l.take k).drop f ++ [y] := by
  have hlt := (List.getElem?_eq_some_iff.1 hy).1
  have h1 : l.take (k + 1) = l.take k ++ [y] := by
    rw [List.take_add_one, hy]; rfl
  rw [h1, List.drop_append_of_le_length (by rw [List.length_take]; omega)]
theorem seg_cons {l : List UInt8} {f k : Nat} {y : UInt8} (hf : f < k) (hk : k ≤ l.length) (hy : l[f]? = some y) : (l.take k).drop f = y :: (l.take k).drop (f + 1) := by
  have h1 : (l.take k)[f]? = some y := by rw [List.getElem?_take, if_pos hf, hy]
  obtain ⟨h2, h3⟩ := List.getElem?_eq_some_iff.1 h1
  rw [List.drop_eq_getElem_cons h2, h3]
theorem seg_len {l : List UInt8} {f k : Nat} (hk : k ≤ l.length) : ((l.take k).drop f).length = k - f := by
  rw [List.length_drop, List.length_take]; omega

set_option maxHeartbeats 1000000 in
theorem number_tot (s : Str) (i : Int) (h0 : 0 ≤ i) (h1 : i < s.b.length) (hl : s.b.length ≤ 1000000) :
    T (fun r => r = -1 ∨ (i < r ∧ r ≤ s.b.length ∧ NumOk ((s.b.take r.toNat).drop i.toNat))) (r04_number s i) := by
  unfold r04_number
  refine T.get h0 h1 fun y1 hy1 => ?_
  refine T.jp (fun f => (y1 = 45 ∧ f = i + 1) ∨ (y1 ≠ 45 ∧ f = i)) (fun J h => T.br (fun hb => T.ck (by omega) (h _ (.inl ⟨of_decide_eq_true hb, rfl⟩))) fun hb => h _ (.inr ⟨of_decide_eq_false hb, rfl⟩)) fun f hf => ?_
  have hf0 : i ≤ f ∧ f ≤ i + 1 := by omega
  have hfl : f ≤ s.b.length := by omega
  refine T.lp (ι := Int × UInt64) (fun q => f ≤ q.1 ∧ q.1 ≤ s.b.length ∧ digs ((s.b.take q.1.toNat).drop f.toNat) ∧ (q.1 - f ≤ 19 → q.2 = uval ((s.b.take q.1.toNat).drop f.toNat))) (fun q => (s.b.length - q.1).toNat)
    (by
      have e : (s.b.take f.toNat).drop f.toNat = [] := List.drop_eq_nil_of_le (by rw [List.length_take]; omega)
      refine ⟨Int.le_refl _, hfl, ?_, ?_⟩
      · rw [e]; intro d hd; cases hd
      · intro _; rw [e]; rfl) (by simp only; omega) fun L q hq hL => ?_
  obtain ⟨k, v⟩ := q
  obtain ⟨hq1, hq2, hq3, hq4⟩ := hq
  simp only at hq1 hq2 hq3 hq4 ⊢
  refine T.jp (fun b => b = true → k < s.b.length ∧ ∀ y, s.b[k.toNat]? = some y → isDigit y = true) (fun J h => ?_) fun b hb => ?_
  · refine T.br (fun h2 => ?_) fun _ => h _ (fun h => by cases h)
    have h2 := of_decide_eq_true h2
    exact T.get (by omega) h2 fun y hy => T.eq (digit_eq y) (h _ fun hd => ⟨h2, fun y' hy' => by rw [hy] at hy'; cases hy'; exact hd⟩)
  refine T.br (fun h2 => ?_) fun _ => ?_
  · obtain ⟨hk, hd⟩ := hb h2
    obtain ⟨y, hy⟩ : ∃ y, s.b[k.toNat]? = some y := ⟨_, List.getElem?_eq_getElem (by omega)⟩
    have hsn := seg_snoc (l := s.b) (f := f.toNat) (k := k.toNat) (y := y) (by omega) hy
    have hk1 : (k + 1).toNat = k.toNat + 1 := by omega
    refine T.ck (by omega) (T.jp (fun u => k - f < 19 → u = 10 * v + (y - 48).toUInt64) (fun J h => T.br (fun _ => ?_) fun h3 => h _ fun h4 => by have := of_decide_eq_false h3; omega) fun u hu => T.ck (by omega) (hL _ ?_ (by simp only; omega)))
    · exact T.get (by omega) hk fun y' hy' => h _ fun _ => by rw [hy] at hy'; cases hy'; rfl
    · refine ⟨by simp only; omega, by simp only; omega, ?_, fun h19 => ?_⟩
      · simp only
        rw [hk1, hsn]
        intro d hd'
        rcases List.mem_append.1 hd' with h | h
        · exact hq3 d h
        · rw [List.mem_singleton.1 h]; exact hd y hy
      · simp only at h19 ⊢
        rw [hk1, hsn, uval_snoc, hu (by omega), hq4 (by omega)]
  refine T.ck (by omega) ?_
  have hlen := seg_len (l := s.b) (f := f.toNat) (k := k.toNat) (by omega)
  refine T.jp (fun b => b = false → 1 ≤ k - f ∧ k - f ≤ 19) (fun J h => T.br (fun _ => h _ (fun h => by cases h)) fun h2 => h _ fun h3 => by have := of_decide_eq_false h2; have := of_decide_eq_false h3; omega) fun b1 hb1 => ?_
  refine T.jp (fun b => b = false → b1 = false) (fun J h => T.br (fun _ => h _ (fun h => by cases h)) fun h2 => ?_) fun b2 hb2 => ?_
  · refine T.jp (fun _ => True) (fun J3 h3 => T.br (fun h4 => T.get (by omega) (by have := of_decide_eq_true h4; omega) fun _ _ => h3 _ trivial) fun _ => h3 _ trivial) fun b _ => h _ fun _ => h2
  refine T.jp (fun b => b = false → b2 = false ∧ (y1 = 45 → ∀ y, s.b[f.toNat]? = some y → y ≠ 48)) (fun J h => T.br (fun _ => h _ (fun h => by cases h)) fun h2 => ?_) fun b3 hb3 => ?_
  · have h5 := hb1 (hb2 h2)
    refine T.jp (fun b => b = false → (y1 = 45 → ∀ y, s.b[f.toNat]? = some y → y ≠ 48)) (fun J3 h3 => T.br (fun h4 => T.get (by omega) (by omega) fun y hy => h3 _ fun h6 _ y' hy' => ?_) fun h4 => h3 _ fun _ h7 => absurd h7 (of_decide_eq_false h4)) fun b hb => h _ fun h6 => ⟨h2, hb h6⟩
    rw [hy] at hy'; cases hy'
    exact of_decide_eq_false h6
  refine T.jp (fun b => b = false → b3 = false) (fun J h => T.br (fun _ => h _ (fun h => by cases h)) fun h2 => T.cal (at_tot s k) fun y _ _ => T.eq (letter_eq y) (h _ fun _ => h2)) fun b4 hb4 => ?_
  refine T.jp (fun b => b = false → b4 = false ∧ ¬ (9223372036854775808 : UInt64) < v) (fun J h => T.br (fun _ => h _ (fun h => by cases h)) fun h2 => h _ fun h3 => ⟨h2, of_decide_eq_false h3⟩) fun b5 hb5 => ?_
  refine T.jp (fun b => b = false → b5 = false ∧ (y1 ≠ 45 → v ≠ 9223372036854775808)) (fun J h => T.br (fun _ => h _ (fun h => by cases h)) fun h2 => ?_) fun b6 hb6 => ?_
  · refine T.jp (fun b => b = false → (y1 ≠ 45 → v ≠ 9223372036854775808)) (fun J3 h3 => T.br (fun h4 => h3 _ fun h5 _ => of_decide_eq_false h5) fun h4 => h3 _ fun _ h5 => absurd h4 (by simp [h5])) fun b hb => h _ fun h6 => ⟨h2, hb h6⟩
  refine T.br (fun _ => T.some (.inl rfl)) fun h2 => T.some (.inr ?_)
  obtain ⟨e5, hv2⟩ := hb6 h2
  obtain ⟨e4, hv1⟩ := hb5 e5
  obtain ⟨e2, hz⟩ := hb3 (hb4 e4)
  obtain ⟨n1, n2⟩ := hb1 (hb2 e2)
  have hv := hq4 n2
  have hvn := uval_dval _ hq3 (by rw [hlen]; omega)
  rw [← hv] at hvn
  have hle : v.toNat ≤ 9223372036854775808 := by
    have : ¬ (9223372036854775808 : UInt64).toNat < v.toNat := fun h => hv1 (UInt64.lt_iff_toNat_lt.2 h)
    have e : (9223372036854775808 : UInt64).toNat = 9223372036854775808 := rfl
    omega
  refine ⟨by omega, hq2, (s.b.take k.toNat).drop f.toNat, hq3, fun h => by rw [h] at hlen; simp at hlen; omega, by rw [hlen]; omega, ?_⟩
  rcases hf with ⟨h45, hfi⟩ | ⟨h45, hfi⟩
  · right
    have hs := seg_cons (l := s.b) (f := i.toNat) (k := k.toNat) (y := y1) (by omega) (by omega) hy1
    have e : i.toNat + 1 = f.toNat := by omega
    rw [e] at hs
    refine ⟨by rw [hs, h45], ?_, by omega⟩
    obtain ⟨y, hy⟩ : ∃ y, s.b[f.toNat]? = some y := ⟨_, List.getElem?_eq_getElem (by omega)⟩
    have hs2 := seg_cons (l := s.b) (f := f.toNat) (k := k.toNat) (y := y) (by omega) (by omega) hy
    rw [hs2] at hq3 ⊢
    exact dval_pos hq3 (hz h45 y hy)
  · left
    subst hfi
    refine ⟨rfl, ?_⟩
    have h3 := hv2 h45
    have : v.toNat ≠ 9223372036854775808 := fun e => h3 (UInt64.toNat_inj.1 e)
    omega
end Go.Proofs.YtbinnmophpfmlaaDoor


namespace Go.Proofs.YtbinnmophpfmlaaDoor
open Go.Sy
set_option linter.unusedVariables false

theorem hex_tot (s : Str) (i : Int) (h0 : 0 ≤ i) (h1 : i < s.b.length) (hl : s.b.length ≤ 1000000) :
    T (fun (r : Int × Str) => r.1 = -1 ∨ (i < r.1 ∧ r.1 ≤ (s.b.length : Int) ∧ r.2.b.length ≤ s.b.length)) (r04_hex s i) := by
  unfold r04_hex
  refine T.ck (by omega) (T.lp (fun (k : Int) => i + 1 ≤ k ∧ k ≤ (s.b.length : Int)) (fun (k : Int) => ((s.b.length : Int) - k).toNat) ⟨Int.le_refl _, by omega⟩ (by omega) fun L k hk hL => ?_)
  refine T.jp (fun b => b = true → k < s.b.length) (fun J h => T.br (fun h2 => ?_) fun _ => h _ (fun h => by cases h)) fun b hb => ?_
  · have h2 := of_decide_eq_true h2
    refine T.get (by omega) h2 fun y _ => T.eq (digit_eq y) ?_
    refine T.jp (fun _ => True) (fun J2 h3 => T.br (fun _ => h3 _ trivial) fun _ => T.get (by omega) h2 fun y _ => ?_) fun q _ => h _ fun _ => h2
    refine T.jp (fun _ => True) (fun J4 h4 => T.br (fun _ => T.get (by omega) h2 fun _ _ => h4 _ trivial) fun _ => h4 _ trivial) fun q _ => h3 _ trivial
  refine T.br (fun h2 => T.ck (by have := hb h2; omega) (hL _ (by have := hb h2; omega) (by have := hb h2; omega))) fun _ => ?_
  refine T.ck (by omega) (T.asr rfl ?_)
  have hat : ∀ (j : Int) y, y = (if 0 ≤ j then (s.b[j.toNat]?).getD 0 else 0) → y ≠ 0 → 0 ≤ j ∧ j < s.b.length := by
    intro j y hy h0
    split at hy
    · rename_i h3
      refine ⟨h3, ?_⟩
      rcases Nat.lt_or_ge j.toNat s.b.length with h4 | h4
      · omega
      · rw [List.getElem?_eq_none h4] at hy; exact absurd hy h0
    · exact absurd hy h0
  refine T.jp (fun _ => True) (fun J h => T.br (fun _ => h _ trivial) fun _ => T.cal (at_tot s k) fun y _ hy => h _ trivial) fun b1 hb1 => ?_
  refine T.jp (fun b => b = false → k + 1 < s.b.length) (fun J h => T.br (fun _ => h _ (fun h => by cases h)) fun _ => T.ck (by omega) (T.cal (at_tot s (k + 1)) fun y _ hy => h _ fun h4 => ?_)) fun b2 hb2 => ?_
  · have h5 : y = 72 := by simpa using h4
    exact (hat _ _ hy (by rw [h5]; decide)).2
  refine T.br (fun _ => T.some (.inl rfl)) fun h3 => T.ck (by omega) (T.asd ?_ (T.some (.inr ?_)))
  · have := hb2 h3; omega
  · have := hb2 h3
    refine ⟨by dsimp only; omega, by dsimp only; omega, ?_⟩
    simp only [List.length_drop, List.length_take]; omega

theorem quoted_tot (s : Str) (i : Int) (h0 : 0 ≤ i) (h1 : i < s.b.length) (hl : s.b.length ≤ 1000000) :
    T (fun (r : Int × Str) => r.1 = -1 ∨ (i < r.1 ∧ r.1 ≤ (s.b.length : Int) ∧ r.2.b.length ≤ s.b.length)) (r04_quoted s i) := by
  unfold r04_quoted
  refine T.ck (by omega) (T.lp (ι := Int × Str) (fun q => i + 1 ≤ q.1 ∧ q.1 ≤ s.b.length + 1 ∧ (q.2.b.length : Int) < q.1) (fun q => (s.b.length + 1 - q.1).toNat) ⟨Int.le_refl _, by dsimp only; omega, by dsimp only; simp only [List.length_nil]; omega⟩ (by dsimp only; omega) fun L q hq hL => ?_)
  obtain ⟨k, o⟩ := q
  obtain ⟨hq1, hq2, hq3⟩ := hq
  simp only at hq1 hq2 hq3 ⊢
  refine T.br (fun h2 => ?_) fun _ => T.some (.inl rfl)
  have h2 := of_decide_eq_true h2
  refine T.jp (fun (q : Int × Str) => k ≤ q.1 ∧ q.1 < (s.b.length : Int) ∧ (q.2.b.length : Int) < q.1 + 1) (fun J h => ?_) fun q hq => ?_
  · refine T.get (by omega) h2 fun y _ => T.br (fun _ => ?_) fun _ => ?_
    · refine T.ck (by omega) (T.asd (by omega) (T.abl ?_ (h _ ?_)))
      · simp only [List.length_drop, List.length_take]; omega
      · refine ⟨Int.le_refl _, by dsimp only; omega, ?_⟩
        simp only [List.length_append, List.length_drop, List.length_take]; omega
    · refine T.ck (by omega) (T.cal (at_tot s (k + 1)) fun y2 _ hy2 => T.br (fun _ => ?_) fun h34 => ?_)
      · exact T.eq rfl (T.br (fun _ => T.some (.inl rfl)) fun _ => T.ck (by omega) (T.some (.inr ⟨by dsimp only; omega, by dsimp only; omega, by dsimp only; omega⟩)))
      · have hlt : k + 1 < s.b.length := by
          have h5 : y2 = 34 := by simpa using h34
          rw [if_pos (by omega)] at hy2
          rcases Nat.lt_or_ge (k + 1).toNat s.b.length with h4 | h4
          · omega
          · rw [List.getElem?_eq_none h4, h5] at hy2; cases hy2
        refine T.abl ?_ (T.ck (by omega) (h _ ?_))
        · simp only [List.length_cons, List.length_nil]; omega
        · refine ⟨by dsimp only; omega, by dsimp only; omega, ?_⟩
          simp only [List.length_append, List.length_cons, List.length_nil]; omega
  · exact T.ck (by omega) (hL _ ⟨by dsimp only; omega, by dsimp only; omega, hq.2.2⟩ (by dsimp only; omega))

theorem in_string_tot (l : List Str) (x : Str) (hl : l.length ≤ 1000000) : T (fun r => r = decide (x ∈ l)) (h_In_string l x) := by
  unfold h_In_string
  refine T.lp (fun (k : Int) => 0 ≤ k ∧ k ≤ (l.length : Int) ∧ x ∉ l.take k.toNat) (fun (k : Int) => ((l.length : Int) - k).toNat) ⟨Int.le_refl _, by omega, by simp⟩ (by omega) fun L k hk hL => ?_
  refine T.br (fun h2 => ?_) fun h2 => T.some ?_
  · have h2 := of_decide_eq_true h2
    refine T.get hk.1 h2 fun y hy => T.br (fun h3 => T.some ?_) fun h3 => T.ck (by omega) (hL _ ⟨by omega, by omega, ?_⟩ (by omega))
    · have h3 := of_decide_eq_true h3
      subst h3
      exact (decide_eq_true (List.mem_of_getElem? hy)).symm
    · have h3 := of_decide_eq_false h3
      have e : (k + 1).toNat = k.toNat + 1 := by omega
      rw [e, List.take_add_one, hy]
      simp only [Option.toList_some, List.mem_append, List.mem_singleton, not_or]
      exact ⟨hk.2.2, fun h => h3 h.symm⟩
  · have h2 := of_decide_eq_false h2
    have h4 := hk.2.2
    rw [List.take_of_length_le (by omega)] at h4
    exact (decide_eq_false h4).symm

theorem sign_tot (s : Str) (i : Int) (h0 : 0 ≤ i) (h1 : i < s.b.length) (hl : s.b.length ≤ 1000000) : T (fun (r : Int) => 0 ≤ r ∧ i + r ≤ (s.b.length : Int)) (r04_sign s i) := by
  unfold r04_sign
  refine T.asd (by omega) (T.lp (fun (k : Int) => 0 ≤ k) (fun (k : Int) => (13 - k).toNat) (Int.le_refl _) (by omega) fun L k hk hL => ?_)
  refine T.br (fun h2 => ?_) fun _ => T.some ⟨Int.le_refl _, by omega⟩
  have h2 := of_decide_eq_true h2
  have hrest : ((Str.mk ((s.b.take ((s.b.length : Int)).toNat).drop i.toNat)).b.length : Int) = s.b.length - i := by
    simp only [List.length_drop, List.length_take]; omega
  refine T.get hk h2 fun y hy => ?_
  refine T.jp (fun b => b = true → i + (y.b.length : Int) ≤ s.b.length) (fun J h => T.br (fun h3 => ?_) fun _ => h _ (fun h => by cases h)) fun b hb => ?_
  · have h3 := of_decide_eq_true h3
    rw [hrest] at h3
    refine T.asd ⟨Int.le_refl _, by omega, by rw [hrest]; exact h3⟩ (T.get hk h2 fun y2 hy2 => h _ fun _ => by omega)
  · refine T.br (fun h3 => T.some ⟨by omega, hb h3⟩) fun _ => T.ck (by have h2 : k < 13 := h2; omega) (hL _ (by omega) ?_)
    have h2 : k < 13 := h2
    omega

structure TokOk (n : Nat) (t : GTok) : Prop where
  num : t.kind = 3 → NumOk t.text.b
  len : t.text.b.length ≤ n
  at0 : 0 ≤ t.at_ ∧ t.at_ ≤ n
theorem words_len : ∀ r, r04_words = some r → r.length ≤ 1000000 := by
  intro r h
  unfold r04_words at h
  have := Option.some.inj h
  subst this
  decide
theorem word_tot (s : Str) : T (fun _ => True) (r04_Word s) := by
  unfold r04_Word
  refine T.cal (Q := fun _ => True) ⟨_, rfl, trivial⟩ fun y hy _ => T.cal (in_string_tot y s (words_len y hy)) fun _ _ _ => T.some trivial

theorem one_tot (s : Str) (i : Int) (h0 : 0 ≤ i) (h1 : i < s.b.length) (hl : s.b.length ≤ 1000000) :
    T (fun (r : GTok × Int) => r.2 < 0 ∨ (i < r.2 ∧ r.2 ≤ (s.b.length : Int) ∧ TokOk s.b.length r.1 ∧ 1 ≤ r.1.kind ∧ r.1.kind ≤ 7)) (r04_one s i) := by
  unfold r04_one
  refine T.get h0 h1 fun y hy => ?_
  refine T.jp (ι := Int × GTok) (fun (q : Int × GTok) => q.1 < 0 ∨ (i < q.1 ∧ q.1 ≤ (s.b.length : Int) ∧ TokOk s.b.length q.2 ∧ 1 ≤ q.2.kind ∧ q.2.kind ≤ 7)) (fun J h => ?_) fun q hq => T.some hq
  have hsub : ∀ (a b : Nat), ((s.b.take a).drop b).length ≤ s.b.length := fun a b => by rw [List.length_drop, List.length_take]; omega
  refine T.eq (letter_eq y) (T.br (fun hle => ?_) fun _ => T.eq (digit_eq y) ?_)
  · refine T.cal (name_tot s i h0 h1 hl fun y' hy' => by rw [hy] at hy'; cases hy'; exact hle) fun e _ he => T.br (fun _ => T.some (.inl (by dsimp only; omega))) fun hn => ?_
    have hn := of_decide_eq_false hn
    have he' : i < e ∧ e ≤ s.b.length := by omega
    refine T.asd (by omega) (T.jp (ι := GTok) (fun t => (t.kind = 1 ∨ t.kind = 2) ∧ t.text.b.length ≤ s.b.length ∧ t.at_ = i) (fun J2 h2 => T.br (fun _ => h2 _ ⟨.inl rfl, hsub _ _, rfl⟩) fun _ => h2 _ ⟨.inr rfl, hsub _ _, rfl⟩) fun t ht => ?_)
    obtain ⟨ht1, ht2, ht3⟩ := ht
    refine T.cal (word_tot t.text) fun w _ _ => T.br (fun _ => h _ (.inr ⟨he'.1, he'.2, ⟨fun h => by simp at h, ht2, by dsimp only; omega⟩, by simp, by simp⟩)) fun _ => h _ (.inr ⟨he'.1, he'.2, ⟨fun h => by rw [h] at ht1; omega, ht2, by dsimp only; omega⟩, by dsimp only; omega, by dsimp only; omega⟩)
  · refine T.jp (fun _ => True) (fun J2 h2 => T.br (fun _ => h2 _ trivial) fun _ => ?_) fun b _ => ?_
    · refine T.jp (fun _ => True) (fun J3 h3 => T.br (fun _ => T.ck (by omega) (T.cal (at_tot s _) fun y _ _ => T.eq (digit_eq y) (h3 _ trivial))) fun _ => h3 _ trivial) fun _ _ => h2 _ trivial
    refine T.br (fun _ => T.cal (number_tot s i h0 h1 hl) fun e _ he => T.br (fun _ => T.some (.inl (by dsimp only; omega))) fun hn => ?_) fun _ => ?_
    · have hn := of_decide_eq_false hn
      have he' : i < e ∧ e ≤ s.b.length ∧ NumOk ((s.b.take e.toNat).drop i.toNat) := by
        rcases he with h | h
        · omega
        · exact h
      exact T.asd (by omega) (h _ (.inr ⟨he'.1, he'.2.1, ⟨fun _ => he'.2.2, hsub _ _, by dsimp only; omega⟩, by simp, by simp⟩))
    · refine T.br (fun _ => T.cal (hex_tot s i h0 h1 hl) fun e _ he => h _ ?_) fun _ => T.br (fun _ => T.cal (quoted_tot s i h0 h1 hl) fun e _ he => h _ ?_) fun _ => ?_
      · rcases he with h | h
        · left; rw [h]; decide
        · exact .inr ⟨h.1, h.2.1, ⟨fun h => by simp at h, h.2.2, by dsimp only; omega⟩, by simp, by simp⟩
      · rcases he with h | h
        · left; rw [h]; decide
        · exact .inr ⟨h.1, h.2.1, ⟨fun h => by simp at h, h.2.2, by dsimp only; omega⟩, by simp, by simp⟩
      · refine T.cal (sign_tot s i h0 h1 hl) fun e _ he => T.br (fun hp => ?_) fun _ => h _ (.inl (by dsimp only; omega))
        have hp := of_decide_eq_true hp
        exact T.ck (by omega) (T.asd (by omega) (T.ck (by omega) (h _ (.inr ⟨by dsimp only; omega, by dsimp only; omega, ⟨fun h => by simp at h, hsub _ _, by dsimp only; omega⟩, by simp, by simp⟩))))

structure ToksOk (l : List GTok) : Prop where
  len : l.length ≤ 8001
  ok : ∀ t ∈ l, TokOk 8000 t
  last : ∃ m e, l = m ++ [e] ∧ e.kind = 0 ∧ ∀ t ∈ m, 1 ≤ t.kind ∧ t.kind ≤ 7

theorem tokens_tot (s : Str) : T (fun r => r.2.2 = 0 → ToksOk r.1) (r04_Tokens s) := by
  unfold r04_Tokens
  refine T.br (fun _ => T.some (fun h => by cases h)) fun hl => ?_
  have hl := of_decide_eq_false hl
  refine T.lp (ι := List GTok × Int) (fun (q : List GTok × Int) => 0 ≤ q.2 ∧ q.2 ≤ (s.b.length : Int) ∧ (q.1.length : Int) ≤ q.2 ∧ (∀ t ∈ q.1, TokOk 8000 t ∧ 1 ≤ t.kind ∧ t.kind ≤ 7)) (fun (q : List GTok × Int) => ((s.b.length : Int) - q.2).toNat) ⟨Int.le_refl _, by dsimp only; omega, by simp, by simp⟩ (by dsimp only; omega) fun L q hq hL => ?_
  obtain ⟨l, k⟩ := q
  obtain ⟨h1, h2, h3, h4⟩ := hq
  simp only at h1 h2 h3 h4 ⊢
  refine T.cal (white_tot s k h1 h2 (by omega)) fun e _ he => T.br (fun _ => ?_) fun hb => ?_
  · refine T.abl (by simp only [List.length_cons, List.length_nil]; omega) (T.some fun _ => ⟨?_, ?_, ⟨l, _, rfl, rfl, fun t ht => (h4 t ht).2⟩⟩)
    · simp only [List.length_append, List.length_cons, List.length_nil]; omega
    · intro t ht
      rcases List.mem_append.1 ht with h | h
      · exact (h4 t h).1
      · rw [List.mem_singleton.1 h]; exact ⟨fun h => by simp at h, by simp, by dsimp only; omega⟩
  · have hb := of_decide_eq_false hb
    refine T.cal (one_tot s e (by omega) (by omega) (by omega)) fun r _ hr => T.br (fun _ => T.some (fun h => by cases h)) fun hn => ?_
    have hn := of_decide_eq_false hn
    rcases hr with h | ⟨r1, r2, r3, r4, r5⟩
    · exact absurd h hn
    refine T.abl (by simp only [List.length_cons, List.length_nil]; omega) (hL _ ⟨by dsimp only; omega, by dsimp only; omega, ?_, fun t ht => ?_⟩ (by dsimp only; omega))
    · simp only [List.length_append, List.length_cons, List.length_nil]; omega
    · rcases List.mem_append.1 ht with h | h
      · exact h4 t h
      · rw [List.mem_singleton.1 h]; exact ⟨⟨r3.num, by have := r3.len; omega, by have := r3.at0; omega⟩, r4, r5⟩
end Go.Proofs.YtbinnmophpfmlaaDoor


namespace Go.Proofs.YtbinnmophpfmlaaDoor
open Go.Sy
set_option linter.unusedVariables false

theorem tx {β : Type} {o : Option β} {x : β} (h : T (fun r => r = x) o) : o = some x := by
  obtain ⟨r, h1, h2⟩ := h; rw [h1, h2]
def hd : List UInt8 → UInt8
  | [] => 0
  | c :: _ => c
theorem hd_drop (b : List UInt8) (n : Nat) : hd (b.drop n) = (b[n]?).getD 0 := by
  rcases Nat.lt_or_ge n b.length with h | h
  · rw [List.drop_eq_getElem_cons h, List.getElem?_eq_getElem h]; rfl
  · rw [List.drop_eq_nil_of_le h, List.getElem?_eq_none h]; rfl
theorem dropc {b : List UInt8} {n : Nat} {y : UInt8} (h : b[n]? = some y) : b.drop n = y :: b.drop (n + 1) := by
  obtain ⟨h1, h2⟩ := List.getElem?_eq_some_iff.1 h
  rw [List.drop_eq_getElem_cons h1, h2]
theorem at_eq (s : Str) (i : Int) (h : 0 ≤ i) : r04_at s i = some (hd (s.b.drop i.toNat)) := by
  obtain ⟨r, h1, h2⟩ := at_tot s i
  rw [h1, h2, if_pos h, hd_drop]

/-! ### White -/
inductive Wst where
  | out
  | start
  | ins
  | fin
def isWh (c : UInt8) : Bool := decide (c = 32) || decide (c = 9) || decide (c = 10) || decide (c = 13)
def wh : Wst → List UInt8 → List UInt8
  | _, [] => []
  | .out, c :: r => bif isWh c then wh .out r else bif decide (c = 45) && decide (hd r = 45) then wh .start r else c :: r
  | .start, _ :: r => wh .ins r
  | .ins, c :: r => bif decide (c = 10) then wh .out r else bif decide (c = 45) && decide (hd r = 45) then wh .fin r else wh .ins r
  | .fin, _ :: r => wh .out r
theorem hd_ne {b : List UInt8} {n : Nat} (h : hd (b.drop n) = 45) : n < b.length := by
  rcases Nat.lt_or_ge n b.length with h2 | h2
  · exact h2
  · rw [List.drop_eq_nil_of_le h2] at h; cases h
theorem skip1 {b : List UInt8} {n : Nat} (h : n < b.length) : ∃ c, b.drop n = c :: b.drop (n + 1) := ⟨_, List.drop_eq_getElem_cons h⟩
theorem white_eq (s : Str) (i : Int) (h0 : 0 ≤ i) (h1 : i ≤ s.b.length) (hl : s.b.length ≤ 1000000) : r04_white s i = some ((s.b.length : Int) - ((wh .out (s.b.drop i.toNat)).length : Int)) := by
  refine tx ?_
  unfold r04_white
  refine T.lp (fun k => i ≤ k ∧ k ≤ s.b.length ∧ wh .out (s.b.drop k.toNat) = wh .out (s.b.drop i.toNat)) (fun k => (s.b.length - k).toNat) ⟨Int.le_refl _, h1, rfl⟩ (by omega) fun L k ⟨k1, k2, k3⟩ hL => ?_
  rw [← k3] at hL ⊢
  refine T.br (fun hb => ?_) (fun hb => T.some ?_)
  rotate_left
  · have hb := of_decide_eq_false hb
    rw [List.drop_eq_nil_of_le (by omega)]
    simp only [wh, List.length_nil]; omega
  have hb := of_decide_eq_true hb
  refine T.get (by omega) hb fun y hy => ?_
  have e := dropc hy
  have e1 : (k + 1).toNat = k.toNat + 1 := by omega
  refine T.jp (fun q => q = (decide (y = 32) || decide (y = 9))) (fun J h => T.br (fun h2 => h _ (by rw [h2]; rfl)) fun h2 => T.get (by omega) hb fun y' hy' => h _ (by rw [hy] at hy'; cases hy'; rw [h2]; rfl)) fun q hq => ?_
  refine T.jp (fun q' => q' = (q || decide (y = 10))) (fun J h => T.br (fun h2 => h _ (by rw [h2]; rfl)) fun h2 => T.get (by omega) hb fun y' hy' => h _ (by rw [hy] at hy'; cases hy'; rw [h2]; rfl)) fun q' hq' => ?_
  refine T.jp (fun q2 => q2 = (q' || decide (y = 13))) (fun J h => T.br (fun h2 => h _ (by rw [h2]; rfl)) fun h2 => T.get (by omega) hb fun y' hy' => h _ (by rw [hy] at hy'; cases hy'; rw [h2]; rfl)) fun q2 hq2 => ?_
  have hw : q2 = isWh y := by rw [hq2, hq', hq]; rfl
  refine T.br (fun h2 => T.ck (by omega) ?_) fun h2 => ?_
  · refine hL _ ⟨by omega, by omega, ?_⟩ (by omega)
    rw [e1, e]; simp only [wh, ← hw, h2, cond_true]
  refine T.get (by omega) hb fun y' hy' => ?_
  rw [hy] at hy'; cases hy'
  refine T.jp (fun q => q = (decide (y = 45) && decide (hd (s.b.drop (k.toNat + 1)) = 45))) (fun J h => T.br (fun h3 => T.ck (by omega) (T.eq (at_eq s _ (by omega)) (h _ (by rw [h3, e1]; rfl)))) fun h3 => h _ (by rw [h3]; rfl)) fun q3 hq3 => ?_
  refine T.br (fun h3 => T.ck (by omega) ?_) (fun h3 => T.some ?_)
  rotate_left
  · rw [e]; simp only [wh, ← hw, h2, cond_false, ← hq3, h3, List.length_cons, List.length_drop]; omega
  have h45 : hd (s.b.drop (k.toNat + 1)) = 45 := by rw [hq3] at h3; simpa using (Bool.and_eq_true_iff.1 h3).2
  have hlt := hd_ne h45
  obtain ⟨c, ec⟩ := skip1 hlt
  have e2 : (k + 2).toNat = k.toNat + 1 + 1 := by omega
  have hins : wh .out (s.b.drop k.toNat) = wh .ins (s.b.drop (k + 2).toNat) := by
    rw [e, e2]; simp only [wh, ← hw, h2, cond_false, ← hq3, h3, cond_true]; rw [ec]; simp only [wh]
  refine T.lp (fun j => k + 2 ≤ j ∧ j ≤ s.b.length ∧ wh .out (s.b.drop k.toNat) = wh .ins (s.b.drop j.toNat)) (fun j => (s.b.length - j).toNat) ⟨Int.le_refl _, by omega, hins⟩ (by omega) fun L2 j ⟨j1, j2, j3⟩ hL2 => ?_
  refine T.jp (fun q => (q = true → j < s.b.length ∧ ∀ y, s.b[j.toNat]? = some y → y ≠ 10) ∧ (q = false → wh .out (s.b.drop j.toNat) = wh .ins (s.b.drop j.toNat))) (fun J h => T.br (fun h4 => ?_) fun h4 => h _ ⟨(fun h => by cases h), fun _ => ?_⟩) fun q hq => ?_
  · have h4 := of_decide_eq_true h4
    refine T.get (by omega) h4 fun y2 hy2 => h _ ⟨fun h5 => ⟨h4, fun y3 hy3 => ?_⟩, fun h5 => ?_⟩
    · rw [hy2] at hy3; cases hy3; simpa using h5
    · have h6 : y2 = 10 := by simpa using h5
      subst h6
      rw [dropc hy2]
      simp [wh, isWh]
  · have h4 := of_decide_eq_false h4
    rw [List.drop_eq_nil_of_le (by omega)]; simp only [wh]
  refine T.br (fun h4 => ?_) (fun h4 => hL _ ⟨by omega, j2, by rw [hq.2 h4, j3]⟩ (by omega))
  obtain ⟨hj, hne⟩ := hq.1 h4
  refine T.get (by omega) hj fun y2 hy2 => ?_
  have hy10 := hne y2 hy2
  have f := dropc hy2
  have f1 : (j + 1).toNat = j.toNat + 1 := by omega
  refine T.jp (fun q => q = (decide (y2 = 45) && decide (hd (s.b.drop (j.toNat + 1)) = 45))) (fun J h => T.br (fun h3 => T.ck (by omega) (T.eq (at_eq s _ (by omega)) (h _ (by rw [h3, f1]; rfl)))) fun h3 => h _ (by rw [h3]; rfl)) fun q4 hq4 => ?_
  refine T.br (fun h5 => T.ck (by omega) ?_) (fun h5 => T.ck (by omega) (hL2 _ ⟨by omega, by omega, ?_⟩ (by omega)))
  · have h46 : hd (s.b.drop (j.toNat + 1)) = 45 := by rw [hq4] at h5; simpa using (Bool.and_eq_true_iff.1 h5).2
    have hlt2 := hd_ne h46
    obtain ⟨c2, ec2⟩ := skip1 hlt2
    have f2 : (j + 2).toNat = j.toNat + 1 + 1 := by omega
    refine hL _ ⟨by omega, by omega, ?_⟩ (by omega)
    rw [j3, f, f2]; simp only [wh, decide_eq_false hy10, cond_false, ← hq4, h5, cond_true]; rw [ec2]; simp only [wh]
  · rw [j3, f, f1]; simp only [wh, decide_eq_false hy10, cond_false, ← hq4, h5]

/-! ### Names -/
def inName (c : UInt8) (r : List UInt8) : Bool := isLetter c || isDigit c || (decide (c = 45) && !decide (hd r = 45))
def nm : List UInt8 → Nat
  | [] => 0
  | c :: r => bif inName c r then nm r + 1 else 0
theorem nm_cons (c : UInt8) (r : List UInt8) : nm (c :: r) = bif inName c r then nm r + 1 else 0 := rfl
theorem nm_le : ∀ b : List UInt8, nm b ≤ b.length
  | [] => Nat.le_refl _
  | c :: r => by
    have := nm_le r
    unfold nm
    cases inName c r <;> simp <;> omega
def nmBad (b : List UInt8) : Bool := decide ((b.take (nm b)).getLast? = some 45) || decide (60 < nm b)
theorem last_take {b : List UInt8} {n : Nat} {y : UInt8} (hn : 0 < n) (hy : b[n - 1]? = some y) : (b.take n).getLast? = some y := by
  have hlt := (List.getElem?_eq_some_iff.1 hy).1
  rw [List.getLast?_eq_getElem?, List.length_take, List.getElem?_take, Nat.min_eq_left (by omega), if_pos (by omega), hy]
theorem name_eq (s : Str) (i : Int) (h0 : 0 ≤ i) (h1 : i < s.b.length) (hl : s.b.length ≤ 1000000) (hc : isLetter (hd (s.b.drop i.toNat)) = true) :
    r04_name s i = some (bif nmBad (s.b.drop i.toNat) then -1 else i + nm (s.b.drop i.toNat)) := by
  refine tx ?_
  unfold r04_name
  have hi0 : 0 < nm (s.b.drop i.toNat) := by
    obtain ⟨c, ec⟩ := skip1 (b := s.b) (n := i.toNat) (by omega)
    rw [ec] at hc ⊢
    unfold nm inName
    simp only [hd] at hc
    rw [hc]; simp
  refine T.lp (fun k => i ≤ k ∧ k ≤ s.b.length ∧ (nm (s.b.drop i.toNat) : Int) = k - i + nm (s.b.drop k.toNat)) (fun k => (s.b.length - k).toNat) ⟨Int.le_refl _, by omega, by omega⟩ (by omega) fun L k ⟨k1, k2, k3⟩ hL => ?_
  refine T.jp (fun q => (q = true → k < s.b.length ∧ (nm (s.b.drop i.toNat) : Int) = k + 1 - i + nm (s.b.drop (k + 1).toNat)) ∧ (q = false → (nm (s.b.drop i.toNat) : Int) = k - i)) (fun J h => ?_) fun q hq => ?_
  · refine T.br (fun hb => ?_) (fun hb => h _ ⟨(fun h => by cases h), fun _ => by
      have := of_decide_eq_false hb
      rw [List.drop_eq_nil_of_le (as := s.b) (i := k.toNat) (by omega)] at k3
      simpa [nm] using k3⟩)
    have hb := of_decide_eq_true hb
    refine T.get (by omega) hb fun y hy => ?_
    have e := dropc hy
    have e1 : (k + 1).toNat = k.toNat + 1 := by omega
    refine T.eq (letter_eq y) ?_
    refine T.jp (fun q => q = (isLetter y || isDigit y)) (fun J2 h2 => T.br (fun h3 => h2 _ (by rw [h3]; rfl)) fun h3 => T.get (by omega) hb fun y2 hy2 => T.eq (digit_eq y2) (h2 _ (by rw [hy] at hy2; cases hy2; rw [h3]; rfl))) fun q hq => ?_
    refine T.jp (fun q2 => q2 = inName y (s.b.drop (k.toNat + 1))) (fun J2 h2 => T.br (fun h3 => h2 _ (by unfold inName; rw [← hq, h3]; rfl)) fun h3 => T.get (by omega) hb fun y2 hy2 => ?_) fun q2 hq2 => ?_
    · rw [hy] at hy2; cases hy2
      refine T.jp (fun q3 => q3 = (decide (y = 45) && !decide (hd (s.b.drop (k.toNat + 1)) = 45))) (fun J3 h4 => T.br (fun h5 => T.ck (by omega) (T.eq (at_eq s _ (by omega)) (h4 _ (by rw [h5, e1]; rfl)))) fun h5 => h4 _ (by rw [h5]; rfl)) fun q3 hq3 => h2 _ ?_
      unfold inName; rw [← hq, h3, hq3]; rfl
    · rw [e, nm_cons] at k3
      refine h _ ⟨fun h3 => ⟨hb, ?_⟩, fun h3 => ?_⟩
      · rw [← hq2, h3, cond_true] at k3
        rw [e1]; omega
      · rw [← hq2, h3, cond_false] at k3
        omega
  refine T.br (fun hb => T.ck (by have := hq.1 hb; omega) (hL _ ⟨by omega, by have := hq.1 hb; omega, (hq.1 hb).2⟩ (by have := hq.1 hb; omega))) fun hb => ?_
  have hn := hq.2 hb
  refine T.ck (by omega) (T.get (by omega) (by omega) fun y hy => ?_)
  have hlast : ((s.b.drop i.toNat).take (nm (s.b.drop i.toNat))).getLast? = some y := by
    refine last_take hi0 ?_
    rw [List.getElem?_drop]
    have : i.toNat + (nm (s.b.drop i.toNat) - 1) = (k - 1).toNat := by omega
    rw [this, hy]
  refine T.jp (fun q => q = nmBad (s.b.drop i.toNat)) (fun J h => T.br (fun h3 => h _ ?_) fun h3 => T.ck (by omega) (h _ ?_)) fun q hq => ?_
  · unfold nmBad
    rw [hlast]
    have := of_decide_eq_true h3
    subst this; rfl
  · unfold nmBad
    rw [hlast]
    have := of_decide_eq_false h3
    have e : decide (some y = some (45 : UInt8)) = false := by simpa using this
    rw [e, Bool.false_or, decide_eq_decide]
    omega
  · rw [← hq]
    exact T.br (fun h3 => T.some (by rw [h3]; rfl)) fun h3 => T.some (by rw [h3, cond_false]; omega)
end Go.Proofs.YtbinnmophpfmlaaDoor


namespace Go.Proofs.YtbinnmophpfmlaaDoor
open Go.Sy
set_option linter.unusedVariables false

theorem or_and0 {a b m : UInt64} (h : (a ||| b) &&& m = 0) : a &&& m = 0 ∧ b &&& m = 0 := by
  have h1 := congrArg UInt64.toNat h
  rw [UInt64.toNat_and, UInt64.toNat_or] at h1
  have h2 := (Lib.or_mask a.toNat b.toNat m.toNat).1 h1
  refine ⟨UInt64.toNat_inj.1 ?_, UInt64.toNat_inj.1 ?_⟩
  · rw [UInt64.toNat_and]; exact h2.1
  · rw [UInt64.toNat_and]; exact h2.2
theorem byte0 : ∀ X : Fin 256, ((UInt8.ofNat X.val).toUInt64 &&& 9259542123273814144) = 0 → X.val < 128 := by decide +kernel
theorem byteK : ∀ k ∈ [8, 16, 24, 32, 40, 48, 56], ∀ X : Fin 256, (shl64 (UInt8.ofNat X.val).toUInt64 k &&& 9259542123273814144) = 0 → X.val < 128 := by decide +kernel
theorem byte0' {y : UInt8} (h : (y.toUInt64 &&& 9259542123273814144) = 0) : y.toNat < 128 := by
  have := byte0 ⟨y.toNat, y.toNat_lt⟩
  rw [UInt8.ofNat_toNat] at this
  exact this h
theorem byteK' {y : UInt8} {k : Nat} (hk : k ∈ [8, 16, 24, 32, 40, 48, 56]) (h : (shl64 y.toUInt64 k &&& 9259542123273814144) = 0) : y.toNat < 128 := by
  have := byteK k hk ⟨y.toNat, y.toNat_lt⟩
  rw [UInt8.ofNat_toNat] at this
  exact this h
def Asc8 (l : List UInt8) (k : Nat) : Prop := ∀ b ∈ l.take k, b.toNat < 128
theorem Asc8.add {l : List UInt8} {a c : Nat} (h1 : Asc8 l a) (h2 : Asc8 (l.drop a) c) : Asc8 l (a + c) := fun b hb => by
  rw [List.take_add] at hb
  rcases List.mem_append.1 hb with hb | hb
  · exact h1 b hb
  · exact h2 b hb
theorem word_T (l : List UInt8) (h : 8 ≤ l.length) : T (fun (w : UInt64) => w &&& 9259542123273814144 = 0 → Asc8 l 8) (utf8_word_Lbyte l) := by
  unfold utf8_word_Lbyte
  refine T.get (by omega) (by omega) fun y1 h1 => T.get (by omega) (by omega) fun y2 h2 => T.abl (by decide) (T.get (by omega) (by omega) fun y3 h3 => T.abl (by decide) (T.get (by omega) (by omega) fun y4 h4 => T.abl (by decide) (T.get (by omega) (by omega) fun y5 h5 => T.abl (by decide) (T.get (by omega) (by omega) fun y6 h6 => T.abl (by decide) (T.get (by omega) (by omega) fun y7 h7 => T.abl (by decide) (T.get (by omega) (by omega) fun y8 h8 => T.abl (by decide) (T.some ?_)))))))
  intro hm b hb
  obtain ⟨hm, k8⟩ := or_and0 hm
  obtain ⟨hm, k7⟩ := or_and0 hm
  obtain ⟨hm, k6⟩ := or_and0 hm
  obtain ⟨hm, k5⟩ := or_and0 hm
  obtain ⟨hm, k4⟩ := or_and0 hm
  obtain ⟨hm, k3⟩ := or_and0 hm
  obtain ⟨k1, k2⟩ := or_and0 hm
  have z1 := byte0' k1
  have z2 := byteK' (k := 8) (by decide) k2
  have z3 := byteK' (k := 16) (by decide) k3
  have z4 := byteK' (k := 24) (by decide) k4
  have z5 := byteK' (k := 32) (by decide) k5
  have z6 := byteK' (k := 40) (by decide) k6
  have z7 := byteK' (k := 48) (by decide) k7
  have z8 := byteK' (k := 56) (by decide) k8
  obtain ⟨i, hi⟩ := List.mem_iff_getElem?.1 hb
  rw [List.getElem?_take] at hi
  have g : ∀ y : UInt8, l[i]? = some y → y.toNat < 128 → i < 8 → b.toNat < 128 := fun y e h9 hi8 => by
    rw [if_pos hi8, e] at hi; cases hi; exact h9
  match i, hi, g with
  | 0, hi, g => exact g _ h1 z1 (by omega)
  | 1, hi, g => exact g _ h2 z2 (by omega)
  | 2, hi, g => exact g _ h3 z3 (by omega)
  | 3, hi, g => exact g _ h4 z4 (by omega)
  | 4, hi, g => exact g _ h5 z5 (by omega)
  | 5, hi, g => exact g _ h6 z6 (by omega)
  | 6, hi, g => exact g _ h7 z7 (by omega)
  | 7, hi, g => exact g _ h8 z8 (by omega)
  | n + 8, hi, g => rw [if_neg (by omega)] at hi; cases hi

theorem vstage {β : Type} {R' : β → Prop} {q : List UInt8} {i : Int} {Pp : Prop} {R : Nat → Prop} {c : Bool} (hc : c = true ↔ Pp) (hi : 0 ≤ i) (hn : ¬ Pp → i < q.length) {K : Bool → Option β} {f : UInt8 → Bool}
    (hf : ∀ y : UInt8, f y = true ↔ R y.toNat) (k : ∀ c' : Bool, (c' = true ↔ Pp ∨ R (q.getD i.toNat 0).toNat) → T R' (K c')) : T R' (jp (ι := Bool) (fun J => br c (J true) (cal (getI q i) fun y => J (f y))) K) := by
  refine T.jp0 ?_
  refine T.br (fun h => k _ ⟨fun _ => .inl (hc.1 h), fun _ => rfl⟩) fun h => ?_
  have hp : ¬ Pp := fun e => by rw [hc.2 e] at h; cases h
  refine T.get hi (hn hp) fun y hy => k _ ?_
  have e : q.getD i.toNat 0 = y := by rw [List.getD_eq_getElem?_getD, hy]; rfl
  rw [e, hf]
  exact ⟨.inr, fun h => h.resolve_left hp⟩
theorem takeL (l : List UInt8) : l.take ((l.length : Int)).toNat = l := by rw [Int.toNat_natCast, List.take_length]
theorem f7 (y : UInt8) : ((tab1 y) &&& (7 : UInt8)).toNat = Lib.firstT y.toNat % 8 := by
  rw [UInt8.toNat_and, tab1_nat]; exact Nat.and_two_pow_sub_one_eq_mod _ 3
theorem f16 (y : UInt8) : (shr8 (tab1 y) (4 : UInt64).toNat).toNat = Lib.firstT y.toNat / 16 := by
  have h : ∀ X : Fin 256, (shr8 (UInt8.ofNat X.val) (4 : UInt64).toNat).toNat = X.val / 16 := by decide +kernel
  have := h ⟨(tab1 y).toNat, (tab1 y).toNat_lt⟩
  rw [UInt8.ofNat_toNat] at this
  rw [this]; show (tab1 y).toNat / 16 = _; rw [tab1_nat]
theorem first_lt : ∀ X : Fin 256, Lib.firstT X.val / 16 < 16 ∧ Lib.accLo (Lib.firstT X.val / 16) < 256 ∧ Lib.accHi (Lib.firstT X.val / 16) < 256 := by decide +kernel
theorem lo_eq (y : UInt8) : (tab2 (shr8 (tab1 y) (4 : UInt64).toNat)).lo.toNat = Lib.accLo (Lib.firstT y.toNat / 16) := by
  unfold tab2
  rw [f16]
  have := (first_lt ⟨y.toNat, y.toNat_lt⟩).2.1
  rw [UInt8.toNat_ofNat']; exact Nat.mod_eq_of_lt this
theorem hi_eq (y : UInt8) : (tab2 (shr8 (tab1 y) (4 : UInt64).toNat)).hi.toNat = Lib.accHi (Lib.firstT y.toNat / 16) := by
  unfold tab2
  rw [f16]
  have := (first_lt ⟨y.toNat, y.toNat_lt⟩).2.2
  rw [UInt8.toNat_ofNat']; exact Nat.mod_eq_of_lt this

theorem utf8_Valid_eq (b : List UInt8) (hl : b.length ≤ 1000000) : utf8_Valid b = some (Lib.validD b) := by
  refine tx ?_
  unfold utf8_Valid
  refine T.asd ⟨by omega, by omega⟩ (T.lp (fun (q : List UInt8) => q.length ≤ 1000000 ∧ Lib.validD q = Lib.validD b) (fun q => q.length) ⟨by rw [takeL]; exact hl, by rw [takeL]⟩ (by rw [takeL]; omega) fun L q ⟨q1, q2⟩ hL => ?_)
  simp only [takeL]
  refine T.br (fun h0 => ?_) fun h0 => T.some ?_
  rotate_left
  · have h0 := of_decide_eq_false h0
    have : q = [] := List.length_eq_zero_iff.1 (by omega)
    rw [← q2, this]; rfl
  have h0 := of_decide_eq_true h0
  refine T.get (by omega) h0 fun y hy => T.br (fun ha => ?_) fun ha => ?_
  · have ha : y.toNat < 128 := UInt8.lt_iff_toNat_lt.1 (of_decide_eq_true ha)
    have hq : q = y :: q.drop 1 := dropc (b := q) (n := 0) hy
    have v1 : Lib.validD (q.drop 1) = Lib.validD b := by rw [← q2]; conv => rhs; rw [hq]
                                                         rw [Lib.validD_cons _ _ ha]
    have l1 : (q.drop 1).length = q.length - 1 := List.length_drop
    refine T.asd ⟨by omega, by omega, by omega⟩ ?_
    show T _ (Sy.jp (fun J102 => br (decide ((8 : Int) < ((q.drop 1).length : Int))) _ _) _)
    generalize hP : q.drop 1 = P at *
    have hP' : q.drop (1 : Int).toNat = P := hP
    simp only [hP']
    refine T.jp (fun c => c = true → 8 < P.length ∧ Asc8 P 8) (fun J k => T.br (fun h8 => ?_) fun _ => k _ (fun e => by cases e)) fun c hc => ?_
    · have h8 := of_decide_eq_true h8
      exact T.cal (word_T P (by omega)) fun w _ hw => k _ fun e => ⟨by omega, hw (of_decide_eq_true e)⟩
    refine T.jp (fun (r : List UInt8) => r.length < q.length ∧ Lib.validD r = Lib.validD b) (fun J k => T.br (fun h => ?_) fun h => k _ ⟨by omega, v1⟩) fun r hr => hL r ⟨by omega, hr.2⟩ hr.1
    obtain ⟨h8, a8⟩ := hc h
    refine T.asd ⟨by omega, by omega, by omega⟩ ?_
    have v9 : Lib.validD (P.drop 8) = Lib.validD b := by rw [← v1]; exact (Lib.validD_ascii 8 P a8).symm
    have l9 : (P.drop 8).length = P.length - 8 := List.length_drop
    generalize hM : P.drop 8 = M at *
    have hM' : P.drop (8 : Int).toNat = M := hM
    simp only [hM']
    refine T.jp (fun c => c = true → 16 < M.length ∧ Asc8 M 16) (fun J k => T.br (fun h8 => ?_) fun _ => k _ (fun e => by cases e)) fun c hc => ?_
    · have h8 := of_decide_eq_true h8
      refine T.asd ⟨by omega, by omega, by omega⟩ (T.cal (word_T M (by omega)) fun w1 _ hw1 => T.cal (word_T (M.drop (8 : Int).toNat) (by rw [List.length_drop]; simp only [Int.reduceToNat]; omega)) fun w2 _ hw2 => k _ fun e => ⟨by omega, ?_⟩)
      obtain ⟨e1, e2⟩ := or_and0 (of_decide_eq_true e)
      exact (hw1 e1).add (c := 8) (hw2 e2)
    refine T.br (fun h => ?_) fun h => k _ ⟨by omega, v9⟩
    obtain ⟨h16, a16⟩ := hc h
    have v25 : Lib.validD (M.drop 16) = Lib.validD b := by rw [← v9]; exact (Lib.validD_ascii 16 M a16).symm
    have l25 : (M.drop 16).length = M.length - 16 := List.length_drop
    refine T.asd ⟨by omega, by omega, by omega⟩ (T.lp (fun (u : List UInt8) => u.length < M.length ∧ Lib.validD u = Lib.validD b) (fun u => u.length) ⟨by show (M.drop 16).length < _; omega, v25⟩ (by show (M.drop 16).length < _; omega) fun L2 u ⟨u1, u2⟩ hL2 => ?_)
    refine T.jp (fun c => c = true → 32 < u.length ∧ Asc8 u 32) (fun J k => T.br (fun h8 => ?_) fun _ => k _ (fun e => by cases e)) fun c hc => ?_
    · have h8 := of_decide_eq_true h8
      refine T.asd ⟨by omega, by omega, by omega⟩ (T.asd ⟨by omega, by omega, by omega⟩ (T.asd ⟨by omega, by omega, by omega⟩ ?_))
      refine T.cal (word_T u (by omega)) fun w1 _ hw1 => T.cal (word_T (u.drop (8 : Int).toNat) (by rw [List.length_drop]; simp only [Int.reduceToNat]; omega)) fun w2 _ hw2 => T.cal (word_T (u.drop (16 : Int).toNat) (by rw [List.length_drop]; simp only [Int.reduceToNat]; omega)) fun w3 _ hw3 => T.cal (word_T (u.drop (24 : Int).toNat) (by rw [List.length_drop]; simp only [Int.reduceToNat]; omega)) fun w4 _ hw4 => k _ fun e => ⟨by omega, ?_⟩
      obtain ⟨e12, e34⟩ := or_and0 (of_decide_eq_true e)
      obtain ⟨e1, e2⟩ := or_and0 e12
      obtain ⟨e3, e4⟩ := or_and0 e34
      exact (((hw1 e1).add (c := 8) (hw2 e2)).add (c := 8) (hw3 e3)).add (c := 8) (hw4 e4)
    refine T.br (fun h => ?_) fun h => k _ ⟨by omega, u2⟩
    obtain ⟨h32, a32⟩ := hc h
    have v57 : Lib.validD (u.drop 32) = Lib.validD b := by rw [← u2]; exact (Lib.validD_ascii 32 u a32).symm
    have l57 : (u.drop 32).length = u.length - 32 := List.length_drop
    exact T.asd ⟨by omega, by omega, by omega⟩ (hL2 _ ⟨by show (u.drop 32).length < _; omega, v57⟩ (by show (u.drop 32).length < _; omega))
  · have hge : 128 ≤ y.toNat := by
      have := of_decide_eq_false ha
      rw [UInt8.lt_iff_toNat_lt] at this
      have e : (128 : UInt8).toNat = 128 := rfl
      omega
    have hy0 : q.getD 0 0 = y := by rw [List.getD_eq_getElem?_getD, show q[0]? = some y from hy]; rfl
    have hlead := Lib.validD_lead q (fun e => by subst e; simp at h0) (by rw [hy0]; exact hge)
    rw [hy0, q2] at hlead
    have e16 := f16 y
    have l16 := (first_lt ⟨y.toNat, y.toNat_lt⟩).1
    have eL := lo_eq y
    have eH := hi_eq y
    rw [f7]
    generalize hA : tab2 (shr8 (tab1 y) (4 : UInt64).toNat) = A at *
    rw [← eL, ← eH] at hlead
    have hlo : ∀ z : UInt8, decide (z < A.lo) = true ↔ z.toNat < A.lo.toNat := fun z => by rw [decide_eq_true_eq, UInt8.lt_iff_toNat_lt]
    have hhi : ∀ z : UInt8, decide (A.hi < z) = true ↔ A.hi.toNat < z.toNat := fun z => by rw [decide_eq_true_eq, UInt8.lt_iff_toNat_lt]
    have h128 : ∀ z : UInt8, decide (z < (128 : UInt8)) = true ↔ z.toNat < 128 := fun z => by rw [decide_eq_true_eq, UInt8.lt_iff_toNat_lt]; rfl
    have h191 : ∀ z : UInt8, decide ((191 : UInt8) < z) = true ↔ 191 < z.toNat := fun z => by rw [decide_eq_true_eq, UInt8.lt_iff_toNat_lt]; rfl
    refine T.abl (by decide) (T.asr (by rw [e16, Nat.blt_eq]; omega) ?_)
    refine T.br (fun s2 => ?_) fun s2 => T.br (fun s3 => ?_) fun s3 => T.br (fun s4 => ?_) fun s4 => T.some ?_
    · have s2 : Lib.firstT y.toNat % 8 = 2 := by have := of_decide_eq_true s2; omega
      rw [s2] at hlead
      refine vstage (Pp := q.length < 2) (R := fun n => n < A.lo.toNat) (by rw [decide_eq_true_eq]; omega) (by omega) (fun h => by omega) hlo fun c1 h1 => ?_
      refine vstage (R := fun n => A.hi.toNat < n) h1 (by omega) (fun h => by omega) hhi fun c2 h2 => ?_
      refine T.br (fun h => T.some ?_) fun h => ?_
      · have := h2.1 h
        rw [hlead]
        unfold Lib.checkN
        rw [if_pos rfl, if_pos (by simpa [or_assoc] using this)]
      · have : ¬ _ := fun e => by rw [h2.2 e] at h; cases h
        have h3 : ¬ (q.length < 2 ∨ (q.getD 1 0).toNat < A.lo.toNat ∨ A.hi.toNat < (q.getD 1 0).toNat) := fun e => this (by simpa [or_assoc] using e)
        unfold Lib.checkN at hlead
        rw [if_pos rfl, if_neg h3] at hlead
        have hd : (q.drop 2).length = q.length - 2 := List.length_drop
        exact T.asd ⟨by omega, by omega, by omega⟩ (hL _ ⟨by show (q.drop 2).length ≤ _; omega, hlead.symm⟩ (by show (q.drop 2).length < _; omega))
    · have s3 : Lib.firstT y.toNat % 8 = 3 := by have := of_decide_eq_true s3; omega
      rw [s3] at hlead
      refine vstage (Pp := q.length < 3) (R := fun n => n < A.lo.toNat) (by rw [decide_eq_true_eq]; omega) (by omega) (fun h => by omega) hlo fun c1 h1 => ?_
      refine vstage (R := fun n => A.hi.toNat < n) h1 (by omega) (fun h => by omega) hhi fun c2 h2 => ?_
      refine vstage (R := fun n => n < 128) h2 (by omega) (fun h => by omega) h128 fun c3 h3 => ?_
      refine vstage (R := fun n => 191 < n) h3 (by omega) (fun h => by omega) h191 fun c4 h4 => ?_
      refine T.br (fun h => T.some ?_) fun h => ?_
      · have := h4.1 h
        rw [hlead]
        unfold Lib.checkN
        rw [if_neg (by decide), if_pos rfl, if_pos (by simpa [or_assoc] using this)]
      · have : ¬ _ := fun e => by rw [h4.2 e] at h; cases h
        have h5 : ¬ (q.length < 3 ∨ (q.getD 1 0).toNat < A.lo.toNat ∨ A.hi.toNat < (q.getD 1 0).toNat ∨ (q.getD 2 0).toNat < 128 ∨ 191 < (q.getD 2 0).toNat) := fun e => this (by simpa [or_assoc] using e)
        unfold Lib.checkN at hlead
        rw [if_neg (by decide), if_pos rfl, if_neg h5] at hlead
        have hd : (q.drop 3).length = q.length - 3 := List.length_drop
        exact T.asd ⟨by omega, by omega, by omega⟩ (hL _ ⟨by show (q.drop 3).length ≤ _; omega, hlead.symm⟩ (by show (q.drop 3).length < _; omega))
    · have s4 : Lib.firstT y.toNat % 8 = 4 := by have := of_decide_eq_true s4; omega
      rw [s4] at hlead
      refine vstage (Pp := q.length < 4) (R := fun n => n < A.lo.toNat) (by rw [decide_eq_true_eq]; omega) (by omega) (fun h => by omega) hlo fun c1 h1 => ?_
      refine vstage (R := fun n => A.hi.toNat < n) h1 (by omega) (fun h => by omega) hhi fun c2 h2 => ?_
      refine vstage (R := fun n => n < 128) h2 (by omega) (fun h => by omega) h128 fun c3 h3 => ?_
      refine vstage (R := fun n => 191 < n) h3 (by omega) (fun h => by omega) h191 fun c4 h4 => ?_
      refine vstage (R := fun n => n < 128) h4 (by omega) (fun h => by omega) h128 fun c5 h5 => ?_
      refine vstage (R := fun n => 191 < n) h5 (by omega) (fun h => by omega) h191 fun c6 h6 => ?_
      refine T.br (fun h => T.some ?_) fun h => ?_
      · have := h6.1 h
        rw [hlead]
        unfold Lib.checkN
        rw [if_neg (by decide), if_neg (by decide), if_pos rfl, if_pos (by simpa [or_assoc] using this)]
      · have : ¬ _ := fun e => by rw [h6.2 e] at h; cases h
        have h7 : ¬ (q.length < 4 ∨ (q.getD 1 0).toNat < A.lo.toNat ∨ A.hi.toNat < (q.getD 1 0).toNat ∨ (q.getD 2 0).toNat < 128 ∨ 191 < (q.getD 2 0).toNat ∨ (q.getD 3 0).toNat < 128 ∨ 191 < (q.getD 3 0).toNat) := fun e => this (by simpa [or_assoc] using e)
        unfold Lib.checkN at hlead
        rw [if_neg (by decide), if_neg (by decide), if_pos rfl, if_neg h7] at hlead
        have hd : (q.drop 4).length = q.length - 4 := List.length_drop
        exact T.asd ⟨by omega, by omega, by omega⟩ (hL _ ⟨by show (q.drop 4).length ≤ _; omega, hlead.symm⟩ (by show (q.drop 4).length < _; omega))
    · rw [hlead]
      unfold Lib.checkN
      have s2 := of_decide_eq_false s2
      have s3 := of_decide_eq_false s3
      have s4 := of_decide_eq_false s4
      rw [if_neg (by omega), if_neg (by omega), if_neg (by omega)]
end Go.Proofs.YtbinnmophpfmlaaDoor


namespace Go.Proofs.YtbinnmophpfmlaaDoor
open Go.Sy
set_option linter.unusedVariables false

theorem seg {b : List UInt8} {i k : Nat} : (b.take k).drop i = (b.drop i).take (k - i) := by rw [List.drop_take]
theorem get_drop {b : List UInt8} {i n : Nat} {y : UInt8} (h : b[i + n]? = some y) : (b.drop i)[n]? = some y := by rw [List.getElem?_drop, h]
theorem take_snoc {b : List UInt8} {n : Nat} {y : UInt8} (h : b[n]? = some y) : b.take (n + 1) = b.take n ++ [y] := by rw [List.take_add_one, h]; rfl

/-! ### Numbers -/
def dg : List UInt8 → Nat
  | [] => 0
  | c :: r => bif isDigit c then dg r + 1 else 0
theorem dg_cons (c : UInt8) (r : List UInt8) : dg (c :: r) = bif isDigit c then dg r + 1 else 0 := rfl
theorem dg_le : ∀ b : List UInt8, dg b ≤ b.length
  | [] => Nat.le_refl _
  | c :: r => by
    have := dg_le r
    rw [dg_cons]
    cases isDigit c <;> simp <;> omega
def numBad (m : Bool) (d : List UInt8) : Bool :=
  decide (dg d < 1) || decide (19 < dg d) || (decide (1 < dg d) && decide (hd d = 48)) || (m && decide (hd d = 48)) || isLetter (hd (d.drop (dg d))) ||
    decide (9223372036854775808 < uval (d.take (dg d))) || (!m && decide (uval (d.take (dg d)) = 9223372036854775808))
def numLen (b : List UInt8) : Option Nat :=
  bif decide (hd b = 45) then bif numBad true (b.drop 1) then none else some (dg (b.drop 1) + 1)
  else bif numBad false b then none else some (dg b)
theorem number_eq (s : Str) (i : Int) (h0 : 0 ≤ i) (h1 : i < s.b.length) (hl : s.b.length ≤ 1000000) :
    r04_number s i = some (match numLen (s.b.drop i.toNat) with
      | none => -1
      | some n => i + (n : Int)) := by
  refine tx ?_
  unfold r04_number
  refine T.get h0 h1 fun y1 hy1 => ?_
  have hd1 : hd (s.b.drop i.toNat) = y1 := by rw [dropc hy1]; rfl
  refine T.jp (fun f => i ≤ f ∧ f ≤ i + 1 ∧ numLen (s.b.drop i.toNat) = (bif numBad (decide (y1 = 45)) (s.b.drop f.toNat) then none else some (dg (s.b.drop f.toNat) + (f - i).toNat))) (fun J h => T.br (fun hb => T.ck (by omega) (h _ ⟨by omega, by omega, ?_⟩)) fun hb => h _ ⟨by omega, by omega, ?_⟩) fun f ⟨f1, f2, f3⟩ => ?_
  · have e1 : (i + 1).toNat = i.toNat + 1 := by omega
    have e2 : (i + 1 - i).toNat = 1 := by omega
    unfold numLen
    rw [hd1, hb, cond_true, e1, e2, List.drop_drop]
  · have e2 : (i - i).toNat = 0 := by omega
    unfold numLen
    rw [hd1, hb, cond_false, e2, Nat.add_zero]
  have hfl : f ≤ s.b.length := by omega
  have hgoal : ∀ k : Int, (dg (s.b.drop f.toNat) : Int) = k - f → (match numLen (s.b.drop i.toNat) with
      | none => -1
      | some n => i + (n : Int)) = bif numBad (decide (y1 = 45)) (s.b.drop f.toNat) then -1 else k := by
    intro k hk
    rw [f3]
    cases numBad (decide (y1 = 45)) (s.b.drop f.toNat) with
    | true => rfl
    | false =>
      show i + ((dg (s.b.drop f.toNat) + (f - i).toNat : Nat) : Int) = k
      omega
  refine T.lp (ι := Int × UInt64) (fun q => f ≤ q.1 ∧ q.1 ≤ s.b.length ∧ (dg (s.b.drop f.toNat) : Int) = q.1 - f + dg (s.b.drop q.1.toNat) ∧ (q.1 - f ≤ 19 → q.2 = uval ((s.b.drop f.toNat).take (q.1.toNat - f.toNat)))) (fun q => (s.b.length - q.1).toNat)
    ⟨Int.le_refl _, hfl, by dsimp only; omega, fun _ => by rw [Nat.sub_self]; rfl⟩ (by simp only; omega) fun L q hq hL => ?_
  obtain ⟨k, v⟩ := q
  obtain ⟨hq1, hq2, hq3, hq4⟩ := hq
  simp only at hq1 hq2 hq3 hq4 ⊢
  refine T.jp (fun b => (b = true → k < s.b.length ∧ (dg (s.b.drop f.toNat) : Int) = k + 1 - f + dg (s.b.drop (k + 1).toNat)) ∧ (b = false → (dg (s.b.drop f.toNat) : Int) = k - f)) (fun J h => ?_) fun b hb => ?_
  · refine T.br (fun h2 => ?_) fun h2 => h _ ⟨(fun h => by cases h), fun _ => ?_⟩
    · have h2 := of_decide_eq_true h2
      have ek : (k + 1).toNat = k.toNat + 1 := by omega
      refine T.get (by omega) h2 fun y hy => T.eq (digit_eq y) (h _ ?_)
      rw [dropc hy, dg_cons] at hq3
      rw [ek]
      refine ⟨fun hd => ⟨h2, ?_⟩, fun hd => ?_⟩
      · rw [hd, cond_true] at hq3; omega
      · rw [hd, cond_false] at hq3; omega
    · have h2 := of_decide_eq_false h2
      rw [List.drop_eq_nil_of_le (as := s.b) (i := k.toNat) (by omega)] at hq3
      simpa [dg] using hq3
  refine T.br (fun h2 => ?_) fun h2 => ?_
  · obtain ⟨hk, hd⟩ := hb.1 h2
    obtain ⟨y, hy⟩ : ∃ y, s.b[k.toNat]? = some y := ⟨_, List.getElem?_eq_getElem (by omega)⟩
    have hsn := take_snoc (b := s.b.drop f.toNat) (n := k.toNat - f.toNat) (y := y) (get_drop (by rw [show f.toNat + (k.toNat - f.toNat) = k.toNat by omega, hy]))
    have hk1 : (k + 1).toNat - f.toNat = k.toNat - f.toNat + 1 := by omega
    refine T.ck (by omega) (T.jp (fun u => k - f < 19 → u = 10 * v + (y - 48).toUInt64) (fun J h => T.br (fun _ => ?_) fun h3 => h _ fun h4 => by have := of_decide_eq_false h3; omega) fun u hu => T.ck (by omega) (hL _ ?_ (by simp only; omega)))
    · exact T.get (by omega) hk fun y' hy' => h _ fun _ => by rw [hy] at hy'; cases hy'; rfl
    · refine ⟨by simp only; omega, by simp only; omega, hd, fun h19 => ?_⟩
      simp only at h19 ⊢
      rw [hk1, hsn, uval_snoc, hu (by omega), hq4 (by omega)]
  have hn := hb.2 h2
  rw [hgoal k hn]
  refine T.ck (by omega) ?_
  have hdn : dg (s.b.drop f.toNat) = k.toNat - f.toNat := by omega
  have hyf : 1 ≤ k - f → ∀ y, s.b[f.toNat]? = some y → hd (s.b.drop f.toNat) = y := fun _ y hy => by rw [dropc hy]; rfl
  refine T.jp (fun b => b = (decide (dg (s.b.drop f.toNat) < 1) || decide (19 < dg (s.b.drop f.toNat)))) (fun J h => T.br (fun h3 => h _ ?_) fun h3 => h _ ?_) fun b1 hb1 => ?_
  · have := of_decide_eq_true h3; rw [decide_eq_true (by omega)]; rfl
  · have := of_decide_eq_false h3; rw [decide_eq_false (show ¬ dg (s.b.drop f.toNat) < 1 by omega), Bool.false_or, decide_eq_decide]; omega
  refine T.jp (fun b => b = (b1 || (decide (1 < dg (s.b.drop f.toNat)) && decide (hd (s.b.drop f.toNat) = 48)))) (fun J h => T.br (fun h3 => h _ (by rw [h3]; rfl)) fun h3 => ?_) fun b2 hb2 => ?_
  · refine T.jp (fun b => b = (decide (1 < dg (s.b.drop f.toNat)) && decide (hd (s.b.drop f.toNat) = 48))) (fun J3 h4 => T.br (fun h5 => ?_) fun h5 => h4 _ ?_) fun b hb => h _ (by rw [h3, hb]; rfl)
    · have h5 := of_decide_eq_true h5
      exact T.get (by omega) (by omega) fun y hy => h4 _ (by rw [decide_eq_true (show 1 < dg (s.b.drop f.toNat) by omega), hyf (by omega) y hy]; rfl)
    · have h5 := of_decide_eq_false h5
      rw [decide_eq_false (show ¬ 1 < dg (s.b.drop f.toNat) by omega)]; rfl
  refine T.jp (fun b => b = (b2 || (decide (y1 = 45) && decide (hd (s.b.drop f.toNat) = 48)))) (fun J h => T.br (fun h3 => h _ (by rw [h3]; rfl)) fun h3 => ?_) fun b3 hb3 => ?_
  · have hge : 1 ≤ k - f := by
      have e1 := (Bool.or_eq_false_iff.1 (hb2.symm.trans h3)).1
      have := of_decide_eq_false (Bool.or_eq_false_iff.1 (hb1.symm.trans e1)).1
      omega
    refine T.jp (fun b => b = (decide (y1 = 45) && decide (hd (s.b.drop f.toNat) = 48))) (fun J3 h4 => T.br (fun h5 => ?_) fun h5 => h4 _ (by rw [h5]; rfl)) fun b hb => h _ (by rw [h3, hb]; rfl)
    exact T.get (by omega) (by omega) fun y hy => h4 _ (by rw [h5, hyf hge y hy]; rfl)
  have hat : r04_at s k = some (hd ((s.b.drop f.toNat).drop (dg (s.b.drop f.toNat)))) := by
    rw [at_eq s k (by omega), List.drop_drop, hdn]
    congr 3; omega
  refine T.jp (fun b => b = (b3 || isLetter (hd ((s.b.drop f.toNat).drop (dg (s.b.drop f.toNat)))))) (fun J h => T.br (fun h3 => h _ (by rw [h3]; rfl)) fun h3 => T.eq hat (T.eq (letter_eq _) (h _ (by rw [h3]; rfl)))) fun b4 hb4 => ?_
  have hv : b4 = false → v = uval ((s.b.drop f.toNat).take (dg (s.b.drop f.toNat))) := fun h => by
    have e3 := (Bool.or_eq_false_iff.1 (hb4.symm.trans h)).1
    have e2 := (Bool.or_eq_false_iff.1 (hb3.symm.trans e3)).1
    have e1 := (Bool.or_eq_false_iff.1 (hb2.symm.trans e2)).1
    have := of_decide_eq_false (Bool.or_eq_false_iff.1 (hb1.symm.trans e1)).2
    rw [hdn]; exact hq4 (by omega)
  refine T.jp (fun b => b = (b4 || decide (9223372036854775808 < uval ((s.b.drop f.toNat).take (dg (s.b.drop f.toNat)))))) (fun J h => T.br (fun h3 => h _ (by rw [h3]; rfl)) fun h3 => h _ (by rw [h3, hv h3]; rfl)) fun b5 hb5 => ?_
  refine T.jp (fun b => b = (b5 || (!decide (y1 = 45) && decide (uval ((s.b.drop f.toNat).take (dg (s.b.drop f.toNat))) = 9223372036854775808)))) (fun J h => T.br (fun h3 => h _ (by rw [h3]; rfl)) fun h3 => ?_) fun b6 hb6 => ?_
  · have e4 := (Bool.or_eq_false_iff.1 (hb5.symm.trans h3)).1
    refine T.jp (fun b => b = (!decide (y1 = 45) && decide (uval ((s.b.drop f.toNat).take (dg (s.b.drop f.toNat))) = 9223372036854775808))) (fun J3 h4 => T.br (fun h5 => h4 _ (by rw [h5, hv e4]; rfl)) fun h5 => h4 _ (by rw [h5]; rfl)) fun b hb => h _ (by rw [h3, hb]; rfl)
  have hall : b6 = numBad (decide (y1 = 45)) (s.b.drop f.toNat) := by
    rw [hb6, hb5, hb4, hb3, hb2, hb1]; rfl
  rw [← hall]
  exact T.br (fun h3 => T.some (by rw [h3]; rfl)) fun h3 => T.some (by rw [h3]; rfl)

/-! ### Hexes -/
def isHex (c : UInt8) : Bool := isDigit c || (decide (65 ≤ c) && decide (c ≤ 70))
def hx : List UInt8 → Nat
  | [] => 0
  | c :: r => bif isHex c then hx r + 1 else 0
theorem hx_cons (c : UInt8) (r : List UInt8) : hx (c :: r) = bif isHex c then hx r + 1 else 0 := rfl
theorem hx_le : ∀ b : List UInt8, hx b ≤ b.length
  | [] => Nat.le_refl _
  | c :: r => by
    have := hx_le r
    rw [hx_cons]
    cases isHex c <;> simp <;> omega
def hexBad (r : List UInt8) : Bool := !decide (hx r % 2 = 0) || !decide (hd (r.drop (hx r)) = 39) || !decide (hd (r.drop (hx r + 1)) = 72)
theorem hd_lt {b : List UInt8} {n : Nat} (h : hd (b.drop n) ≠ 0) : n < b.length := by
  rcases Nat.lt_or_ge n b.length with h2 | h2
  · exact h2
  · rw [List.drop_eq_nil_of_le h2] at h; exact absurd rfl h
theorem hex_eq (s : Str) (i : Int) (h0 : 0 ≤ i) (h1 : i < s.b.length) (hl : s.b.length ≤ 1000000) :
    r04_hex s i = some (bif hexBad (s.b.drop (i.toNat + 1)) then (-1, ⟨[]⟩) else (i + 1 + (hx (s.b.drop (i.toNat + 1)) : Int) + 2, ⟨(s.b.drop (i.toNat + 1)).take (hx (s.b.drop (i.toNat + 1)))⟩)) := by
  refine tx ?_
  unfold r04_hex
  have e0 : (i + 1).toNat = i.toNat + 1 := by omega
  refine T.ck (by omega) (T.lp (fun (k : Int) => i + 1 ≤ k ∧ k ≤ (s.b.length : Int) ∧ (hx (s.b.drop (i.toNat + 1)) : Int) = k - (i + 1) + hx (s.b.drop k.toNat)) (fun (k : Int) => ((s.b.length : Int) - k).toNat) ⟨Int.le_refl _, by omega, by rw [e0]; omega⟩ (by omega) fun L k ⟨k1, k2, k3⟩ hL => ?_)
  refine T.jp (fun b => (b = true → k < s.b.length ∧ (hx (s.b.drop (i.toNat + 1)) : Int) = k + 1 - (i + 1) + hx (s.b.drop (k + 1).toNat)) ∧ (b = false → (hx (s.b.drop (i.toNat + 1)) : Int) = k - (i + 1))) (fun J h => T.br (fun h2 => ?_) fun h2 => h _ ⟨(fun h => by cases h), fun _ => ?_⟩) fun b hb => ?_
  · have h2 := of_decide_eq_true h2
    refine T.get (by omega) h2 fun y hy => T.eq (digit_eq y) ?_
    have ek : (k + 1).toNat = k.toNat + 1 := by omega
    refine T.jp (fun q => q = isHex y) (fun J2 h3 => T.br (fun h4 => h3 _ (by unfold isHex; rw [h4]; rfl)) fun h4 => T.get (by omega) h2 fun y' hy' => ?_) fun q hq => h _ ?_
    · rw [hy] at hy'; cases hy'
      refine T.jp (fun q => q = (decide (65 ≤ y) && decide (y ≤ 70))) (fun J4 h5 => T.br (fun h6 => T.get (by omega) h2 fun y' hy' => h5 _ (by rw [hy] at hy'; cases hy'; rw [h6]; rfl)) fun h6 => h5 _ (by rw [h6]; rfl)) fun q hq => h3 _ (by unfold isHex; rw [h4, hq]; rfl)
    · subst hq
      rw [dropc hy, hx_cons] at k3
      rw [ek]
      refine ⟨fun hd => ⟨h2, ?_⟩, fun hd => ?_⟩
      · rw [hd, cond_true] at k3; omega
      · rw [hd, cond_false] at k3; omega
  · have h2 := of_decide_eq_false h2
    rw [List.drop_eq_nil_of_le (as := s.b) (i := k.toNat) (by omega)] at k3
    simpa [hx] using k3
  refine T.br (fun h2 => T.ck (by have := hb.1 h2; omega) (hL _ ⟨by have := hb.1 h2; omega, by have := hb.1 h2; omega, (hb.1 h2).2⟩ (by have := hb.1 h2; omega))) fun h2 => ?_
  have hn := hb.2 h2
  have hdk : (s.b.drop (i.toNat + 1)).drop (hx (s.b.drop (i.toNat + 1))) = s.b.drop k.toNat := by rw [List.drop_drop]; congr 1; omega
  have hdk1 : (s.b.drop (i.toNat + 1)).drop (hx (s.b.drop (i.toNat + 1)) + 1) = s.b.drop (k + 1).toNat := by rw [List.drop_drop]; congr 1; omega
  refine T.ck (by omega) (T.asr rfl ?_)
  have hmod : decide ((k - (i + 1)).tmod 2 = 0) = decide (hx (s.b.drop (i.toNat + 1)) % 2 = 0) := by
    rw [decide_eq_decide, Int.tmod_eq_emod_of_nonneg (by omega)]
    omega
  refine T.jp (fun b => b = (!decide (hx (s.b.drop (i.toNat + 1)) % 2 = 0) || !decide (hd (s.b.drop k.toNat) = 39))) (fun J h => T.br (fun h3 => h _ (by rw [← hmod, h3]; rfl)) fun h3 => T.eq (at_eq s k (by omega)) (h _ (by rw [← hmod, h3]; rfl))) fun b1 hb1 => ?_
  refine T.jp (fun b => b = hexBad (s.b.drop (i.toNat + 1))) (fun J h => T.br (fun h3 => h _ ?_) fun h3 => T.ck (by omega) (T.eq (at_eq s (k + 1) (by omega)) (h _ ?_))) fun b2 hb2 => ?_
  · unfold hexBad; rw [hdk, ← hb1, h3]; rfl
  · unfold hexBad; rw [hdk, hdk1, ← hb1, h3]; rfl
  rw [← hb2]
  refine T.br (fun h3 => T.some (by rw [h3]; rfl)) fun h3 => ?_
  have hlt : k + 1 < s.b.length := by
    rw [h3] at hb2
    unfold hexBad at hb2
    have := (Bool.or_eq_false_iff.1 hb2.symm).2
    have h72 : hd (s.b.drop (k + 1).toNat) = 72 := by rw [hdk1] at this; simpa using this
    have := hd_lt (b := s.b) (n := (k + 1).toNat) (by rw [h72]; decide)
    omega
  refine T.ck (by omega) (T.asd (by omega) (T.some ?_))
  rw [h3, cond_false, seg, e0]
  have e5 : k.toNat - (i.toNat + 1) = hx (s.b.drop (i.toNat + 1)) := by omega
  rw [e5, hn]
  have e6 : i + 1 + (k - (i + 1)) + 2 = k + 2 := by omega
  rw [e6]

/-! ### Strings -/
def qd : Bool → List UInt8 → List UInt8 → Option (List UInt8 × List UInt8)
  | _, [], _ => none
  | true, _ :: r, acc => qd false r (acc ++ [34])
  | false, c :: r, acc => bif decide (c = 34) then bif decide (hd r = 34) then qd true r acc else bif Lib.validD acc then some (acc, r) else none else qd false r (acc ++ [c])
theorem quoted_eq (s : Str) (i : Int) (h0 : 0 ≤ i) (h1 : i < s.b.length) (hl : s.b.length ≤ 1000000) :
    r04_quoted s i = some (match qd false (s.b.drop (i.toNat + 1)) [] with
      | none => (-1, ⟨[]⟩)
      | some (t, r) => ((s.b.length : Int) - (r.length : Int), ⟨t⟩)) := by
  refine tx ?_
  unfold r04_quoted
  have e0 : (i + 1).toNat = i.toNat + 1 := by omega
  refine T.ck (by omega) (T.lp (ι := Int × Str) (fun q => i + 1 ≤ q.1 ∧ q.1 ≤ s.b.length + 1 ∧ (q.2.b.length : Int) < q.1 ∧ qd false (s.b.drop (i.toNat + 1)) [] = qd false (s.b.drop q.1.toNat) q.2.b) (fun q => (s.b.length + 1 - q.1).toNat) ⟨Int.le_refl _, by dsimp only; omega, by dsimp only; simp only [List.length_nil]; omega, by dsimp only; rw [e0]⟩ (by dsimp only; omega) fun L q hq hL => ?_)
  obtain ⟨k, o⟩ := q
  obtain ⟨hq1, hq2, hq3, hq4⟩ := hq
  simp only at hq1 hq2 hq3 hq4 ⊢
  rw [hq4] at hL ⊢
  refine T.br (fun h2 => ?_) fun h2 => T.some ?_
  rotate_left
  · have h2 := of_decide_eq_false h2
    rw [List.drop_eq_nil_of_le (by omega)]; simp only [qd]
  have h2 := of_decide_eq_true h2
  have ek : (k + 1).toNat = k.toNat + 1 := by omega
  refine T.jp (fun (q : Int × Str) => k ≤ q.1 ∧ q.1 < (s.b.length : Int) ∧ (q.2.b.length : Int) < q.1 + 1 ∧ qd false (s.b.drop k.toNat) o.b = qd false (s.b.drop (q.1 + 1).toNat) q.2.b) (fun J h => ?_) fun q hq => ?_
  · refine T.get (by omega) h2 fun y hy => T.br (fun h3 => ?_) fun h3 => ?_
    · have h34 : decide (y = 34) = false := by simpa using h3
      have ey : (s.b.take (k + 1).toNat).drop k.toNat = [y] := by
        rw [seg, ek, dropc hy, show k.toNat + 1 - k.toNat = 1 by omega]; rfl
      refine T.ck (by omega) (T.asd (by omega) (T.abl ?_ (h _ ⟨Int.le_refl _, h2, ?_, ?_⟩)))
      · simp only [List.length_drop, List.length_take]; omega
      · simp only [List.length_append, List.length_drop, List.length_take]; omega
      · dsimp only
        rw [ey, ek]
        conv => lhs; rw [dropc hy]
        simp only [qd, h34, cond_false]
    · have h34 : decide (y = 34) = true := by simpa using h3
      refine T.ck (by omega) (T.eq (at_eq s (k + 1) (by omega)) (T.br (fun h4 => ?_) fun h4 => ?_))
      · have hn : decide (hd (s.b.drop (k.toNat + 1)) = 34) = false := by rw [ek] at h4; simpa using h4
        refine T.eq rfl (T.br (fun h5 => T.some ?_) fun h5 => T.ck (by omega) (T.some ?_))
        · have h5 : Lib.validD o.b = false := by simpa using h5
          conv => rhs; rw [dropc hy]
          simp only [qd, h34, cond_true, hn, cond_false, h5]
        · have h5 : Lib.validD o.b = true := by simpa using h5
          conv => rhs; rw [dropc hy]
          simp only [qd, h34, cond_true, hn, cond_false, h5, List.length_drop]
          congr 1; omega
      · have hn : hd (s.b.drop (k.toNat + 1)) = 34 := by rw [ek] at h4; simpa using h4
        have hlt := hd_lt (b := s.b) (n := k.toNat + 1) (by rw [hn]; decide)
        obtain ⟨c, ec⟩ := skip1 hlt
        refine T.abl ?_ (T.ck (by omega) (h _ ⟨by dsimp only; omega, by dsimp only; omega, ?_, ?_⟩))
        · simp only [List.length_cons, List.length_nil]; omega
        · simp only [List.length_append, List.length_cons, List.length_nil]; omega
        · dsimp only
          rw [show (k + 1 + 1).toNat = k.toNat + 1 + 1 by omega]
          conv => lhs; rw [dropc hy]
          simp only [qd, h34, cond_true, decide_eq_true hn]
          rw [ec]; simp only [qd]
  · exact T.ck (by omega) (hL _ ⟨by dsimp only; omega, by dsimp only; omega, hq.2.2.1, hq.2.2.2⟩ (by dsimp only; omega))
end Go.Proofs.YtbinnmophpfmlaaDoor


namespace Go.Proofs.YtbinnmophpfmlaaDoor
open Go.Sy
set_option linter.unusedVariables false

/-! ### Signs -/
def isPre : List UInt8 → List UInt8 → Bool
  | [], _ => true
  | _ :: _, [] => false
  | p :: ps, c :: r => bif decide (p = c) then isPre ps r else false
def sgF : List (List UInt8) → List UInt8 → Nat
  | [], _ => 0
  | p :: ps, b => bif isPre p b then p.length else sgF ps b
def sgs : List (List UInt8) := [[58, 58, 61], [46, 46, 46], [46, 46], [91, 91], [93, 93], [123], [125], [91], [93], [40], [41], [44], [58]]
def sg (b : List UInt8) : Nat := sgF sgs b
theorem isPre_iff : ∀ (p b : List UInt8), isPre p b = true ↔ p.length ≤ b.length ∧ b.take p.length = p
  | [], b => by simp [isPre]
  | _ :: _, [] => by simp [isPre]
  | p :: ps, c :: r => by
    have ih := isPre_iff ps r
    unfold isPre
    by_cases h : p = c
    · subst h; simp [ih]
    · simp only [decide_eq_false h, cond_false, List.length_cons, List.take_succ_cons, List.cons.injEq]
      exact ⟨(fun h => by cases h), fun h2 => absurd h2.2.1.symm h⟩
theorem sgs_get {k : Nat} {y : Str} (h : ([(Str.mk [58, 58, 61]), (Str.mk [46, 46, 46]), (Str.mk [46, 46]), (Str.mk [91, 91]), (Str.mk [93, 93]), (Str.mk [123]), (Str.mk [125]), (Str.mk [91]), (Str.mk [93]), (Str.mk [40]), (Str.mk [41]), (Str.mk [44]), (Str.mk [58])] : List Str)[k]? = some y) : sgs.drop k = y.b :: sgs.drop (k + 1) := by
  have e : ([(Str.mk [58, 58, 61]), (Str.mk [46, 46, 46]), (Str.mk [46, 46]), (Str.mk [91, 91]), (Str.mk [93, 93]), (Str.mk [123]), (Str.mk [125]), (Str.mk [91]), (Str.mk [93]), (Str.mk [40]), (Str.mk [41]), (Str.mk [44]), (Str.mk [58])] : List Str) = sgs.map Str.mk := rfl
  rw [e, List.getElem?_map] at h
  obtain ⟨z, h1, h2⟩ := Option.map_eq_some_iff.1 h
  subst h2
  obtain ⟨h3, h4⟩ := List.getElem?_eq_some_iff.1 h1
  rw [List.drop_eq_getElem_cons h3, h4]
theorem sign_eq (s : Str) (i : Int) (h0 : 0 ≤ i) (h1 : i < s.b.length) (hl : s.b.length ≤ 1000000) : r04_sign s i = some ((sg (s.b.drop i.toNat) : Nat) : Int) := by
  refine tx ?_
  unfold r04_sign
  refine T.asd (by omega) (T.lp (fun (k : Int) => 0 ≤ k ∧ k ≤ 13 ∧ sgF (sgs.drop k.toNat) (s.b.drop i.toNat) = sg (s.b.drop i.toNat)) (fun (k : Int) => (13 - k).toNat) ⟨Int.le_refl _, by omega, rfl⟩ (by omega) fun L k ⟨k1, k2, k3⟩ hL => ?_)
  have er : (s.b.take ((s.b.length : Int)).toNat).drop i.toNat = s.b.drop i.toNat := by rw [List.take_of_length_le (by omega)]
  refine T.br (fun h2 => ?_) fun h2 => T.some ?_
  rotate_left
  · have h2 : ¬ k < 13 := of_decide_eq_false h2
    have : k = 13 := by omega
    subst this
    rw [← k3]; rfl
  have h2 := of_decide_eq_true h2
  refine T.get k1 h2 fun y hy => ?_
  have hs := sgs_get hy
  rw [hs] at k3
  unfold sgF at k3
  rw [er]
  refine T.jp (fun b => b = isPre y.b (s.b.drop i.toNat)) (fun J h => T.br (fun h3 => ?_) fun h3 => h _ ?_) fun b hb => ?_
  · have h3 := of_decide_eq_true h3
    refine T.asd ⟨Int.le_refl _, by omega, h3⟩ (T.get k1 h2 fun y2 hy2 => h _ ?_)
    rw [hy] at hy2; cases hy2
    have h4 : y.b.length ≤ (s.b.drop i.toNat).length := by simp only [List.length_drop] at h3 ⊢; omega
    rw [Bool.eq_iff_iff, decide_eq_true_eq, isPre_iff]
    constructor
    · intro h5
      refine ⟨h4, ?_⟩
      have := congrArg Str.b h5
      simpa using this
    · intro h5
      obtain ⟨yb⟩ := y
      simp only [Str.mk.injEq]
      simpa using h5.2
  · have h3 := of_decide_eq_false h3
    symm
    rw [Bool.eq_false_iff]
    intro h5
    have := (isPre_iff _ _).1 h5
    simp only [List.length_drop] at h3 this
    omega
  · rw [hb]
    refine T.br (fun h3 => T.some ?_) fun h3 => T.ck (by have h2 : k < 13 := h2; omega) (hL _ ⟨by omega, by have h2 : k < 13 := h2; omega, ?_⟩ (by have h2 : k < 13 := h2; omega))
    · rw [h3, cond_true] at k3; rw [← k3]
    · rw [h3, cond_false] at k3
      have e : (k + 1).toNat = k.toNat + 1 := by omega
      rw [e, k3]

/-! ### Words -/
def wordsL : List Str := [(Str.mk [68, 69, 70, 73, 78, 73, 84, 73, 79, 78, 83]), (Str.mk [69, 88, 80, 76, 73, 67, 73, 84]), (Str.mk [73, 77, 80, 76, 73, 67, 73, 84]), (Str.mk [65, 85, 84, 79, 77, 65, 84, 73, 67]), (Str.mk [84, 65, 71, 83]), (Str.mk [66, 69, 71, 73, 78]), (Str.mk [69, 78, 68]), (Str.mk [66, 79, 79, 76, 69, 65, 78]), (Str.mk [73, 78, 84, 69, 71, 69, 82]), (Str.mk [69, 78, 85, 77, 69, 82, 65, 84, 69, 68]), (Str.mk [78, 85, 76, 76]), (Str.mk [79, 67, 84, 69, 84]), (Str.mk [83, 84, 82, 73, 78, 71]), (Str.mk [85, 84, 70, 56, 83, 116, 114, 105, 110, 103]), (Str.mk [83, 69, 81, 85, 69, 78, 67, 69]), (Str.mk [83, 69, 84]), (Str.mk [67, 72, 79, 73, 67, 69]), (Str.mk [79, 70]), (Str.mk [79, 80, 84, 73, 79, 78, 65, 76]), (Str.mk [68, 69, 70, 65, 85, 76, 84]), (Str.mk [83, 73, 90, 69]), (Str.mk [77, 73, 78]), (Str.mk [77, 65, 88]), (Str.mk [84, 82, 85, 69]), (Str.mk [70, 65, 76, 83, 69])]
def sameB : List UInt8 → List UInt8 → Bool
  | [], [] => true
  | a :: r, b :: t => bif decide (a = b) then sameB r t else false
  | _, _ => false
theorem sameB_iff : ∀ a b : List UInt8, sameB a b = true ↔ a = b
  | [], [] => by simp [sameB]
  | [], _ :: _ => by simp [sameB]
  | _ :: _, [] => by simp [sameB]
  | a :: r, b :: t => by
    have ih := sameB_iff r t
    unfold sameB
    by_cases h : a = b
    · subst h; simp [ih]
    · simp [h]
def isWord (t : List UInt8) : Bool := wordsL.any fun w => sameB w.b t
theorem word_eq (s : Str) : r04_Word s = some (isWord s.b) := by
  refine tx ?_
  unfold r04_Word
  refine T.eq (y := wordsL) rfl (T.cal (in_string_tot wordsL s (by decide)) fun y _ hy => T.some ?_)
  rw [hy, Bool.eq_iff_iff, decide_eq_true_eq]
  unfold isWord
  rw [List.any_eq_true]
  constructor
  · intro h; exact ⟨s, h, (sameB_iff _ _).2 rfl⟩
  · rintro ⟨w, h1, h2⟩
    have := (sameB_iff _ _).1 h2
    obtain ⟨wb⟩ := w; obtain ⟨sb⟩ := s
    simp only at this; subst this; exact h1

/-! ### One sign, all signs -/
/-- The kind and the text of what comes first, and what is left behind it. -/
def oneS (b : List UInt8) : Option (Int × List UInt8 × List UInt8) :=
  let c := hd b
  bif isLetter c then bif nmBad b then none else some (bif isWord (b.take (nm b)) then 5 else bif decide (c ≤ 90) then 1 else 2, b.take (nm b), b.drop (nm b))
  else bif isDigit c || (decide (c = 45) && isDigit (hd (b.drop 1))) then match numLen b with
    | none => none
    | some n => some (3, b.take n, b.drop n)
  else bif decide (c = 39) then bif hexBad (b.drop 1) then none else some (4, (b.drop 1).take (hx (b.drop 1)), (b.drop 1).drop (hx (b.drop 1) + 2))
  else bif decide (c = 34) then match qd false (b.drop 1) [] with
    | none => none
    | some (t, r) => some (7, t, r)
  else bif decide (0 < sg b) then some (6, b.take (sg b), b.drop (sg b)) else none
theorem qd_len : ∀ (b : List UInt8) (f : Bool) (acc t r : List UInt8), qd f b acc = some (t, r) → r.length < b.length
  | [], f, acc, t, r, h => by cases f <;> simp [qd] at h
  | c :: b, true, acc, t, r, h => by
    simp only [qd] at h
    have := qd_len b _ _ _ _ h
    simp; omega
  | c :: b, false, acc, t, r, h => by
    simp only [qd] at h
    by_cases h1 : c = 34
    · simp only [decide_eq_true h1, cond_true] at h
      by_cases h2 : hd b = 34
      · simp only [decide_eq_true h2, cond_true] at h
        have := qd_len b _ _ _ _ h
        simp; omega
      · simp only [decide_eq_false h2, cond_false] at h
        cases hv : Lib.validD acc with
        | true => rw [hv] at h; simp at h; rw [← h.2]; simp
        | false => rw [hv] at h; cases h
    · simp only [decide_eq_false h1, cond_false] at h
      have := qd_len b _ _ _ _ h
      simp; omega
theorem numLen_bd {b : List UInt8} {n : Nat} (h : numLen b = some n) : 0 < n ∧ n ≤ b.length := by
  unfold numLen at h
  by_cases h1 : hd b = 45
  · simp only [decide_eq_true h1, cond_true] at h
    cases hb : numBad true (b.drop 1) with
    | true => rw [hb] at h; cases h
    | false =>
      rw [hb] at h; simp only [cond_false, Option.some.injEq] at h
      have := dg_le (b.drop 1)
      rw [List.length_drop] at this
      have : b ≠ [] := fun e => by rw [e] at h1; cases h1
      have := List.length_pos_iff.2 this
      omega
  · simp only [decide_eq_false h1, cond_false] at h
    cases hb : numBad false b with
    | true => rw [hb] at h; cases h
    | false =>
      rw [hb] at h; simp at h
      have := dg_le b
      have : decide (dg b < 1) = false := by
        unfold numBad at hb
        simp only [Bool.or_eq_false_iff] at hb
        exact hb.1.1.1.1.1.1
      have := of_decide_eq_false this
      omega
theorem nm_pos {b : List UInt8} (h : isLetter (hd b) = true) : 0 < nm b := by
  cases b with
  | nil => simp [hd, isLetter] at h
  | cons c r =>
    rw [nm_cons]
    simp only [hd] at h
    unfold inName
    rw [h]; simp
theorem sg_le : ∀ (l : List (List UInt8)) (b : List UInt8), sgF l b ≤ b.length
  | [], b => Nat.zero_le _
  | p :: ps, b => by
    unfold sgF
    cases h : isPre p b with
    | true => exact ((isPre_iff _ _).1 h).1
    | false => exact sg_le ps b
theorem oneS_len {b t r : List UInt8} {k : Int} (h : oneS b = some (k, t, r)) : r.length < b.length := by
  unfold oneS at h
  simp only at h
  cases h1 : isLetter (hd b) with
  | true =>
    rw [h1, cond_true] at h
    cases h2 : nmBad b with
    | true => rw [h2] at h; cases h
    | false =>
      rw [h2] at h
      simp only [cond_false, Option.some.injEq, Prod.mk.injEq] at h
      rw [← h.2.2, List.length_drop]
      have := nm_pos h1
      have := nm_le b
      omega
  | false =>
    rw [h1, cond_false] at h
    cases h2 : isDigit (hd b) || (decide (hd b = 45) && isDigit (hd (b.drop 1))) with
    | true =>
      rw [h2, cond_true] at h
      cases h3 : numLen b with
      | none => rw [h3] at h; cases h
      | some n =>
        rw [h3] at h
        simp only [Option.some.injEq, Prod.mk.injEq] at h
        have := numLen_bd h3
        rw [← h.2.2, List.length_drop]; omega
    | false =>
      rw [h2, cond_false] at h
      by_cases h3 : hd b = 39
      · rw [decide_eq_true h3, cond_true] at h
        cases h4 : hexBad (b.drop 1) with
        | true => rw [h4] at h; cases h
        | false =>
          rw [h4] at h
          simp only [cond_false, Option.some.injEq, Prod.mk.injEq] at h
          have : b ≠ [] := fun e => by rw [e] at h3; cases h3
          have := List.length_pos_iff.2 this
          rw [← h.2.2, List.length_drop, List.length_drop]; omega
      · rw [decide_eq_false h3, cond_false] at h
        by_cases h4 : hd b = 34
        · rw [decide_eq_true h4, cond_true] at h
          cases h5 : qd false (b.drop 1) [] with
          | none => rw [h5] at h; cases h
          | some q =>
            rw [h5] at h
            obtain ⟨t', r'⟩ := q
            simp only [Option.some.injEq, Prod.mk.injEq] at h
            have := qd_len _ _ _ _ _ h5
            rw [List.length_drop] at this
            rw [← h.2.2]; omega
        · rw [decide_eq_false h4, cond_false] at h
          by_cases h5 : 0 < sg b
          · rw [decide_eq_true h5, cond_true] at h
            simp only [Option.some.injEq, Prod.mk.injEq] at h
            have := sg_le sgs b
            have e : sgF sgs b = sg b := rfl
            rw [← h.2.2, List.length_drop]; omega
          · rw [decide_eq_false h5] at h; cases h
theorem one_eq (s : Str) (i : Int) (h0 : 0 ≤ i) (h1 : i < s.b.length) (hl : s.b.length ≤ 1000000) :
    T (fun (q : GTok × Int) => match oneS (s.b.drop i.toNat) with
      | none => q.2 < 0
      | some (k, t, r) => q = (⟨k, ⟨t⟩, i⟩, (s.b.length : Int) - (r.length : Int))) (r04_one s i) := by
  unfold r04_one
  refine T.get h0 h1 fun y hy => ?_
  have ed := dropc hy
  have hy0 : hd (s.b.drop i.toNat) = y := by rw [ed]; rfl
  have ed1 : (s.b.drop i.toNat).drop 1 = s.b.drop (i.toNat + 1) := by rw [List.drop_drop]
  have elen : (s.b.drop i.toNat).length = s.b.length - i.toNat := List.length_drop
  have etake : ∀ (n : Nat), (s.b.take (i + (n : Int)).toNat).drop i.toNat = (s.b.drop i.toNat).take n := fun n => by
    rw [seg]; congr 1; omega
  have erest : ∀ (n : Nat), n ≤ (s.b.drop i.toNat).length → i + (n : Int) = (s.b.length : Int) - (((s.b.drop i.toNat).drop n).length : Int) := fun n hn => by
    rw [List.length_drop, elen]; rw [elen] at hn; omega
  refine T.jp (ι := Int × GTok) (fun (q : Int × GTok) => match oneS (s.b.drop i.toNat) with
      | none => q.1 < 0
      | some (k, t, r) => (q.2, q.1) = (⟨k, ⟨t⟩, i⟩, (s.b.length : Int) - (r.length : Int))) (fun J h => ?_) fun q hq => T.some hq
  unfold oneS at h ⊢
  simp only [hy0] at h ⊢
  refine T.eq (letter_eq y) (T.br (fun hle => ?_) fun hle => T.eq (digit_eq y) ?_)
  · rw [hle, cond_true] at h ⊢
    have hcl : isLetter (hd (s.b.drop i.toNat)) = true := by rw [hy0]; exact hle
    refine T.eq (name_eq s i h0 h1 hl hcl) ?_
    cases hb : nmBad (s.b.drop i.toNat) with
    | true =>
      rw [hb, cond_true] at h
      simp only [cond_true] at h ⊢
      exact T.br (fun _ => T.some (by dsimp only; omega)) fun hn => by have := of_decide_eq_false hn; omega
    | false =>
      rw [hb, cond_false] at h
      simp only [cond_false] at h ⊢
      have hnl := nm_le (s.b.drop i.toNat)
      rw [elen] at hnl
      refine T.br (fun hn => by have := of_decide_eq_true hn; omega) fun _ => T.asd (by omega) ?_
      rw [etake]
      refine T.jp (ι := GTok) (fun t => t = ⟨bif decide (y ≤ 90) then 1 else 2, ⟨(s.b.drop i.toNat).take (nm (s.b.drop i.toNat))⟩, i⟩) (fun J2 h2 => T.br (fun h3 => h2 _ (by rw [h3]; rfl)) fun h3 => h2 _ (by rw [h3]; rfl)) fun t ht => ?_
      subst ht
      refine T.eq (word_eq _) (T.br (fun h3 => h _ ?_) fun h3 => h _ ?_)
      · dsimp only at h3 ⊢; rw [h3, ← erest _ (nm_le _)]; rfl
      · dsimp only at h3 ⊢; rw [h3, ← erest _ (nm_le _)]; rfl
  · rw [hle, cond_false] at h ⊢
    refine T.jp (fun b => b = (isDigit y || (decide (y = 45) && isDigit (hd ((s.b.drop i.toNat).drop 1))))) (fun J2 h2 => T.br (fun h3 => h2 _ (by rw [h3]; rfl)) fun h3 => ?_) fun b hb => ?_
    · refine T.jp (fun b => b = (decide (y = 45) && isDigit (hd ((s.b.drop i.toNat).drop 1)))) (fun J3 h4 => T.br (fun h5 => T.ck (by omega) (T.eq (at_eq s (i + 1) (by omega)) (T.eq (digit_eq _) (h4 _ ?_)))) fun h5 => h4 _ (by rw [h5]; rfl)) fun b hb => h2 _ (by rw [h3, hb]; rfl)
      rw [h5, ed1, show (i + 1).toNat = i.toNat + 1 by omega]; rfl
    rw [← hb] at h ⊢
    refine T.br (fun h3 => T.eq (number_eq s i h0 h1 hl) ?_) fun h3 => ?_
    · rw [h3, cond_true] at h ⊢
      cases hn : numLen (s.b.drop i.toNat) with
      | none =>
        simp only [hn] at h ⊢
        exact T.br (fun _ => T.some (by dsimp only; omega)) fun hn => by have := of_decide_eq_false hn; omega
      | some n =>
        simp only [hn] at h ⊢
        have hbd := numLen_bd hn
        have hbd2 := hbd.2
        rw [elen] at hbd2
        refine T.br (fun hn => by have := of_decide_eq_true hn; omega) fun _ => T.asd (by omega) (h _ ?_)
        rw [etake, ← erest n hbd.2]
    · rw [h3, cond_false] at h ⊢
      refine T.br (fun h4 => T.eq (hex_eq s i h0 h1 hl) (h _ ?_)) fun h4 => ?_
      · rw [h4, cond_true, ed1]
        cases hb : hexBad (s.b.drop (i.toNat + 1)) with
        | true => simp only [cond_true]; omega
        | false =>
          simp only [cond_false]
          have h5 : hx (s.b.drop (i.toNat + 1)) + 1 < (s.b.drop (i.toNat + 1)).length := by
            unfold hexBad at hb
            have := (Bool.or_eq_false_iff.1 hb).2
            have h72 : hd ((s.b.drop (i.toNat + 1)).drop (hx (s.b.drop (i.toNat + 1)) + 1)) = 72 := by simpa using this
            exact hd_lt (by rw [h72]; decide)
          rw [List.length_drop] at h5
          rw [List.length_drop, List.length_drop]
          have e : i + 1 + (hx (s.b.drop (i.toNat + 1)) : Int) + 2 = (s.b.length : Int) - ((s.b.length - (i.toNat + 1) - (hx (s.b.drop (i.toNat + 1)) + 2) : Nat) : Int) := by omega
          rw [e]
      · rw [h4, cond_false] at h ⊢
        refine T.br (fun h5 => T.eq (quoted_eq s i h0 h1 hl) (h _ ?_)) fun h5 => ?_
        · rw [h5, cond_true, ed1]
          cases hq : qd false (s.b.drop (i.toNat + 1)) [] with
          | none => simp only; omega
          | some q => rfl
        · rw [h5, cond_false] at h ⊢
          refine T.eq (sign_eq s i h0 h1 hl) (T.br (fun h6 => ?_) fun h6 => h _ ?_)
          · have h6 := of_decide_eq_true h6
            have hsl := sg_le sgs (s.b.drop i.toNat)
            have esg : sgF sgs (s.b.drop i.toNat) = sg (s.b.drop i.toNat) := rfl
            have hpos : 0 < sg (s.b.drop i.toNat) := by omega
            have hsl2 := hsl
            rw [elen] at hsl2
            refine T.ck (by omega) (T.asd (by omega) (T.ck (by omega) (h _ ?_)))
            rw [decide_eq_true hpos, cond_true]
            dsimp only
            rw [etake, ← erest (sg (s.b.drop i.toNat)) hsl]
          · have h6 := of_decide_eq_false h6
            rw [decide_eq_false (show ¬ 0 < sg (s.b.drop i.toNat) by omega)]
            simp only [cond_false]; omega

def toksF (n : Nat) : Nat → List UInt8 → List GTok → List GTok × Int × Int
  | 0, _, _ => ([], 0, 0)
  | f + 1, b, acc => match wh .out b with
    | [] => (acc ++ [⟨0, ⟨[]⟩, (n : Int)⟩], 0, 0)
    | c :: r => match oneS (c :: r) with
      | none => ([], (n : Int) - ((c :: r).length : Int), 6)
      | some (k, t, r') => toksF n f r' (acc ++ [⟨k, ⟨t⟩, (n : Int) - ((c :: r).length : Int)⟩])
theorem toksF_succ (n f : Nat) (b : List UInt8) (acc : List GTok) : toksF n (f + 1) b acc = match wh .out b with
    | [] => (acc ++ [⟨0, ⟨[]⟩, (n : Int)⟩], 0, 0)
    | c :: r => match oneS (c :: r) with
      | none => ([], (n : Int) - ((c :: r).length : Int), 6)
      | some (k, t, r') => toksF n f r' (acc ++ [⟨k, ⟨t⟩, (n : Int) - ((c :: r).length : Int)⟩]) := rfl
def toks (b : List UInt8) : List GTok × Int × Int := bif decide (8000 < b.length) then ([], 0, 5) else toksF b.length (b.length + 1) b []
theorem wh_len : ∀ (b : List UInt8) (st : Wst), (wh st b).length ≤ b.length
  | [], st => by cases st <;> simp [wh]
  | c :: r, .out => by
    have h1 := wh_len r .out
    have h2 := wh_len r .start
    simp only [wh]
    cases isWh c <;> simp only [cond_true, cond_false]
    · cases decide (c = 45) && decide (hd r = 45) <;> simp only [cond_true, cond_false, List.length_cons] <;> omega
    · simp only [List.length_cons]; omega
  | c :: r, .start => by have := wh_len r .ins; simp only [wh, List.length_cons]; omega
  | c :: r, .ins => by
    have h1 := wh_len r .out
    have h2 := wh_len r .fin
    have h3 := wh_len r .ins
    simp only [wh, List.length_cons]
    cases decide (c = 10) <;> simp only [cond_true, cond_false]
    · cases decide (c = 45) && decide (hd r = 45) <;> simp only [cond_true, cond_false] <;> omega
    · omega
  | c :: r, .fin => by have := wh_len r .out; simp only [wh, List.length_cons]; omega
theorem wh_suf : ∀ (b : List UInt8) (st : Wst), ∃ n, wh st b = b.drop n
  | [], st => ⟨0, by cases st <;> simp [wh]⟩
  | c :: r, .out => by
    obtain ⟨n1, h1⟩ := wh_suf r .out
    obtain ⟨n2, h2⟩ := wh_suf r .start
    simp only [wh]
    cases isWh c <;> simp only [cond_true, cond_false]
    · cases decide (c = 45) && decide (hd r = 45) <;> simp only [cond_true, cond_false]
      · exact ⟨0, rfl⟩
      · exact ⟨n2 + 1, h2⟩
    · exact ⟨n1 + 1, h1⟩
  | c :: r, .start => by obtain ⟨n, h⟩ := wh_suf r .ins; exact ⟨n + 1, h⟩
  | c :: r, .ins => by
    obtain ⟨n1, h1⟩ := wh_suf r .out
    obtain ⟨n2, h2⟩ := wh_suf r .fin
    obtain ⟨n3, h3⟩ := wh_suf r .ins
    simp only [wh]
    cases decide (c = 10) <;> simp only [cond_true, cond_false]
    · cases decide (c = 45) && decide (hd r = 45) <;> simp only [cond_true, cond_false]
      · exact ⟨n3 + 1, h3⟩
      · exact ⟨n2 + 1, h2⟩
    · exact ⟨n1 + 1, h1⟩
  | c :: r, .fin => by obtain ⟨n, h⟩ := wh_suf r .out; exact ⟨n + 1, h⟩
theorem qd_suf : ∀ (b : List UInt8) (f : Bool) (acc t r : List UInt8), qd f b acc = some (t, r) → ∃ n, r = b.drop n
  | [], f, acc, t, r, h => by cases f <;> simp [qd] at h
  | c :: b, true, acc, t, r, h => by
    simp only [qd] at h
    obtain ⟨n, e⟩ := qd_suf b _ _ _ _ h
    exact ⟨n + 1, e⟩
  | c :: b, false, acc, t, r, h => by
    simp only [qd] at h
    by_cases h1 : c = 34
    · simp only [decide_eq_true h1, cond_true] at h
      by_cases h2 : hd b = 34
      · simp only [decide_eq_true h2, cond_true] at h
        obtain ⟨n, e⟩ := qd_suf b _ _ _ _ h
        exact ⟨n + 1, e⟩
      · simp only [decide_eq_false h2, cond_false] at h
        cases hv : Lib.validD acc with
        | true => rw [hv] at h; simp at h; exact ⟨1, h.2.symm⟩
        | false => rw [hv] at h; cases h
    · simp only [decide_eq_false h1, cond_false] at h
      obtain ⟨n, e⟩ := qd_suf b _ _ _ _ h
      exact ⟨n + 1, e⟩
theorem oneS_suf {b t r : List UInt8} {k : Int} (h : oneS b = some (k, t, r)) : ∃ n, r = b.drop n := by
  unfold oneS at h
  simp only at h
  cases h1 : isLetter (hd b) with
  | true =>
    rw [h1, cond_true] at h
    cases h2 : nmBad b with
    | true => rw [h2] at h; cases h
    | false =>
      rw [h2] at h
      simp only [cond_false, Option.some.injEq, Prod.mk.injEq] at h
      exact ⟨_, h.2.2.symm⟩
  | false =>
    rw [h1, cond_false] at h
    cases h2 : isDigit (hd b) || (decide (hd b = 45) && isDigit (hd (b.drop 1))) with
    | true =>
      rw [h2, cond_true] at h
      cases h3 : numLen b with
      | none => rw [h3] at h; cases h
      | some n =>
        rw [h3] at h
        simp only [Option.some.injEq, Prod.mk.injEq] at h
        exact ⟨_, h.2.2.symm⟩
    | false =>
      rw [h2, cond_false] at h
      by_cases h3 : hd b = 39
      · rw [decide_eq_true h3, cond_true] at h
        cases h4 : hexBad (b.drop 1) with
        | true => rw [h4] at h; cases h
        | false =>
          rw [h4] at h
          simp only [cond_false, Option.some.injEq, Prod.mk.injEq, List.drop_drop] at h
          exact ⟨_, h.2.2.symm⟩
      · rw [decide_eq_false h3, cond_false] at h
        by_cases h4 : hd b = 34
        · rw [decide_eq_true h4, cond_true] at h
          cases h5 : qd false (b.drop 1) [] with
          | none => rw [h5] at h; cases h
          | some q =>
            rw [h5] at h
            obtain ⟨t', r'⟩ := q
            simp only [Option.some.injEq, Prod.mk.injEq] at h
            obtain ⟨n, e⟩ := qd_suf _ _ _ _ _ h5
            rw [List.drop_drop] at e
            exact ⟨_, h.2.2.symm.trans e⟩
        · rw [decide_eq_false h4, cond_false] at h
          by_cases h5 : 0 < sg b
          · rw [decide_eq_true h5, cond_true] at h
            simp only [Option.some.injEq, Prod.mk.injEq] at h
            exact ⟨_, h.2.2.symm⟩
          · rw [decide_eq_false h5] at h; cases h
theorem suf_drop {b r : List UInt8} {n : Nat} (h : r = b.drop n) : b.drop (b.length - r.length) = r := by
  subst h
  rw [List.length_drop]
  rcases Nat.lt_or_ge b.length n with h2 | h2
  · rw [List.drop_eq_nil_of_le (show b.length ≤ n by omega), List.drop_eq_nil_of_le (by omega)]
  · congr 1; omega

theorem tokens_eq (s : Str) : r04_Tokens s = some (toks s.b) := by
  refine tx ?_
  unfold r04_Tokens toks
  refine T.br (fun h => T.some ?_) fun h => ?_
  · have h := of_decide_eq_true h
    rw [decide_eq_true (show 8000 < s.b.length by omega)]; rfl
  have hl := of_decide_eq_false h
  rw [decide_eq_false (show ¬ 8000 < s.b.length by omega), cond_false]
  refine T.lp (ι := List GTok × Int) (fun (q : List GTok × Int) => 0 ≤ q.2 ∧ q.2 ≤ (s.b.length : Int) ∧ (q.1.length : Int) ≤ q.2 ∧ ∃ f, (s.b.drop q.2.toNat).length < f ∧ toksF s.b.length (s.b.length + 1) s.b [] = toksF s.b.length f (s.b.drop q.2.toNat) q.1) (fun (q : List GTok × Int) => ((s.b.length : Int) - q.2).toNat) ⟨Int.le_refl _, by dsimp only; omega, by simp, s.b.length + 1, by simp, rfl⟩ (by dsimp only; omega) fun L q hq hL => ?_
  obtain ⟨l, k⟩ := q
  obtain ⟨h1, h2, h3, f, h4, h5⟩ := hq
  simp only at h1 h2 h3 h4 h5 ⊢
  rw [h5] at hL ⊢
  cases f with
  | zero => omega
  | succ f =>
    have hwl := wh_len (s.b.drop k.toNat) .out
    rw [List.length_drop] at hwl h4
    obtain ⟨nw, hw⟩ := wh_suf (s.b.drop k.toNat) .out
    rw [List.drop_drop] at hw
    have hsw := suf_drop hw
    refine T.eq (white_eq s k h1 h2 (by omega)) ?_
    rw [toksF_succ] at hL ⊢
    cases hwh : wh .out (s.b.drop k.toNat) with
    | nil =>
      simp only [hwh] at hL ⊢
      refine T.br (fun _ => T.abl (by simp only [List.length_cons, List.length_nil]; omega) (T.some rfl)) fun h6 => ?_
      have := of_decide_eq_false h6
      simp at this
    | cons c r =>
      simp only [hwh] at hL ⊢ 
      rw [hwh] at hwl hsw
      have hcl : 0 < (c :: r).length := by simp
      refine T.br (fun h6 => by have := of_decide_eq_true h6; omega) fun _ => ?_
      have hi : ((s.b.length : Int) - ((c :: r).length : Int)).toNat = s.b.length - (c :: r).length := by omega
      refine T.cal (one_eq s ((s.b.length : Int) - ((c :: r).length : Int)) (by omega) (by omega) (by omega)) fun q _ hq => ?_
      rw [hi, hsw] at hq
      cases ho : oneS (c :: r) with
      | none =>
        rw [ho] at hq
        simp only [ho] at hL ⊢
        simp only at hq
        exact T.br (fun _ => T.some rfl) fun h7 => by have := of_decide_eq_false h7; omega
      | some p =>
        obtain ⟨kd, t, r'⟩ := p
        rw [ho] at hq
        simp only [ho] at hL ⊢
        simp only at hq
        subst hq
        have hol := oneS_len ho
        obtain ⟨no, hso⟩ := oneS_suf ho
        have hso2 : r' = s.b.drop (s.b.length - (c :: r).length + no) := by rw [hso, ← List.drop_drop, hsw]
        have hsd := suf_drop hso2
        refine T.br (fun h7 => by have := of_decide_eq_true h7; dsimp only at this; omega) fun _ => T.abl (by simp only [List.length_cons, List.length_nil]; omega) (hL _ ⟨by dsimp only; omega, by dsimp only; omega, ?_, f, ?_, ?_⟩ (by dsimp only; omega))
        · dsimp only; rw [List.length_append, List.length_singleton]; omega
        · dsimp only
          rw [show ((s.b.length : Int) - (r'.length : Int)).toNat = s.b.length - r'.length by omega, hsd]
          omega
        · dsimp only
          rw [show ((s.b.length : Int) - (r'.length : Int)).toNat = s.b.length - r'.length by omega, hsd]
end Go.Proofs.YtbinnmophpfmlaaDoor


namespace Go.Proofs.YtbinnmophpfmlaaDoor
open Go.Sy
set_option linter.unusedVariables false

theorem peek_eq (q : GLex) (k : Int) (h0 : 0 ≤ q.reader.at_ + k) (h1 : q.reader.at_ + k ≤ 2000000) (hl : q.reader.s.b.length ≤ 1000000) : lex_reader_peek q k = some (hd (q.reader.s.b.drop (q.reader.at_ + k).toNat), q) := by
  refine tx ?_
  unfold lex_reader_peek
  refine T.ck ⟨by omega, by omega⟩ (T.br (fun h => T.some ?_) fun h => T.ck ⟨by omega, by omega⟩ (T.get h0 (by have := of_decide_eq_false h; omega) fun y hy => T.some ?_))
  · have := of_decide_eq_true h
    rw [List.drop_eq_nil_of_le (by omega)]; rfl
  · rw [dropc hy]; rfl
theorem hasPre (a p : Str) : internal_stringslite_HasPrefix a p = some (isPre p.b a.b) := by
  refine tx ?_
  unfold internal_stringslite_HasPrefix
  refine T.jp (fun b => b = isPre p.b a.b) (fun J h => T.br (fun h3 => ?_) fun h3 => h _ ?_) fun b hb => T.some hb
  · have h3 := of_decide_eq_true h3
    refine T.asd ⟨Int.le_refl _, by omega, h3⟩ (h _ ?_)
    rw [Bool.eq_iff_iff, decide_eq_true_eq, isPre_iff]
    constructor
    · intro h5
      refine ⟨by omega, ?_⟩
      have := congrArg Str.b h5
      simpa using this
    · intro h5
      obtain ⟨yb⟩ := p
      simp only [Str.mk.injEq]
      simpa using h5.2
  · have h3 := of_decide_eq_false h3
    symm
    rw [Bool.eq_false_iff]
    intro h5
    have := (isPre_iff _ _).1 h5
    omega
theorem ahead_eq (q : GLex) (t : Str) (h0 : 0 ≤ q.reader.at_) (h1 : q.reader.at_ ≤ q.reader.s.b.length) : lex_reader_ahead q t = some (isPre t.b (q.reader.s.b.drop q.reader.at_.toNat), q) := by
  refine tx ?_
  unfold lex_reader_ahead strings_HasPrefix
  refine T.asd ⟨h0, h1, Int.le_refl _⟩ (T.cal (Q := fun b => b = isPre t.b (q.reader.s.b.drop q.reader.at_.toNat)) (T.eq (hasPre _ _) (T.some ?_)) fun b _ hb => T.some (by rw [hb]))
  rw [takeL]
theorem isPre2 (a c : UInt8) (d : List UInt8) (ha : a ≠ 0) (hc : c ≠ 0) : isPre [a, c] d = (decide (hd d = a) && decide (hd (d.drop 1) = c)) := by
  match d with
  | [] => simp [isPre, hd, ha.symm]
  | [x] => simp [isPre, hd, hc.symm]
  | x :: y :: r =>
    have e1 : decide (x = a) = decide (a = x) := decide_eq_decide.2 eq_comm
    have e2 : decide (y = c) = decide (c = y) := decide_eq_decide.2 eq_comm
    show (bif decide (a = x) then (bif decide (c = y) then true else false) else false) = (decide (x = a) && decide (y = c))
    rw [e1, e2]
    cases decide (a = x) <;> cases decide (c = y) <;> rfl
theorem clet (c : UInt8) : lex_letter c = some (isLetter c) := by
  refine tx ?_
  unfold lex_letter isLetter
  refine T.jp (fun q => q = (decide (97 ≤ c) && decide (c ≤ 122))) (fun J h => T.br (fun h2 => h _ (by rw [h2]; rfl)) fun h2 => h _ (by rw [h2]; rfl)) fun q hq => ?_
  refine T.jp (fun q' => q' = (q || (decide (65 ≤ c) && decide (c ≤ 90)))) (fun J h => T.br (fun h2 => h _ (by rw [h2]; rfl)) fun h2 => ?_) fun q' hq' => T.some (by rw [hq', hq])
  refine T.jp (fun q' => q' = (decide (65 ≤ c) && decide (c ≤ 90))) (fun J2 h3 => T.br (fun h4 => h3 _ (by rw [h4]; rfl)) fun h4 => h3 _ (by rw [h4]; rfl)) fun q' hq' => h _ (by rw [h2, hq']; rfl)
theorem cdig (c : UInt8) : lex_digit c = some (isDigit c) := by
  refine tx ?_
  unfold lex_digit isDigit
  refine T.jp (fun q => q = (decide (48 ≤ c) && decide (c ≤ 57))) (fun J h => T.br (fun h2 => h _ (by rw [h2]; rfl)) fun h2 => h _ (by rw [h2]; rfl)) fun q hq => T.some hq

/-! ### White -/
theorem wh_ins_end (c : UInt8) (r : List UInt8) (h : c = 10) : wh .ins (c :: r) = wh .out (c :: r) := by
  subst h; simp [wh, isWh]
theorem skip_eq (x : GLex) (h0 : 0 ≤ x.reader.at_) (h1 : x.reader.at_ ≤ x.reader.s.b.length) (hl : x.reader.s.b.length ≤ 1000000) :
    T (fun r => r.reader.s = x.reader.s ∧ r.reader.at_ = (x.reader.s.b.length : Int) - ((wh .out (x.reader.s.b.drop x.reader.at_.toNat)).length : Int)) (lex_reader_skip x) := by
  obtain ⟨⟨s, i⟩⟩ := x
  simp only at h0 h1 hl ⊢
  unfold lex_reader_skip
  refine T.lp (ι := GLex) (fun q => q.reader.s = s ∧ 0 ≤ q.reader.at_ ∧ q.reader.at_ ≤ s.b.length ∧ wh .out (s.b.drop q.reader.at_.toNat) = wh .out (s.b.drop i.toNat)) (fun q => (s.b.length - q.reader.at_).toNat) ⟨rfl, h0, h1, rfl⟩ (by dsimp only; omega) fun L q hq hL => ?_
  obtain ⟨⟨s', k⟩⟩ := q
  obtain ⟨es, k1, k2, k3⟩ := hq
  simp only at es k1 k2 k3
  subst es
  rw [← k3] at hL ⊢
  simp only at hL ⊢
  refine T.br (fun hb => ?_) (fun hb => T.some ⟨rfl, ?_⟩)
  rotate_left
  · have hb := of_decide_eq_false hb
    show k = _
    rw [List.drop_eq_nil_of_le (by omega)]
    simp only [wh, List.length_nil]; omega
  have hb := of_decide_eq_true hb
  obtain ⟨y, hy⟩ : ∃ y, s'.b[k.toNat]? = some y := ⟨_, List.getElem?_eq_getElem (by omega)⟩
  have e := dropc hy
  have e1 : (k + 1).toNat = k.toNat + 1 := by omega
  have hpk : lex_reader_peek (GLex.mk (GLrd.mk s' k)) 0 = some (y, GLex.mk (GLrd.mk s' k)) := by
    rw [peek_eq _ _ (by show 0 ≤ k + 0; omega) (by show k + 0 ≤ _; omega) hl]
    show some (hd (s'.b.drop (k + 0).toNat), _) = _
    rw [Int.add_zero, e]; rfl
  refine T.eq hpk ?_
  simp only
  refine T.jp (fun q => q = (decide (y = 32) || decide (y = 9))) (fun J h => T.br (fun h2 => h _ (by rw [h2]; rfl)) fun h2 => h _ (by rw [h2]; rfl)) fun q hq => ?_
  refine T.jp (fun q' => q' = (q || decide (y = 10))) (fun J h => T.br (fun h2 => h _ (by rw [h2]; rfl)) fun h2 => h _ (by rw [h2]; rfl)) fun q' hq' => ?_
  refine T.jp (fun q2 => q2 = (q' || decide (y = 13))) (fun J h => T.br (fun h2 => h _ (by rw [h2]; rfl)) fun h2 => h _ (by rw [h2]; rfl)) fun q2 hq2 => ?_
  have hw : q2 = isWh y := by rw [hq2, hq', hq]; rfl
  refine T.br (fun h2 => T.ck (by omega) (hL _ ⟨rfl, by dsimp only; omega, by dsimp only; omega, ?_⟩ (by dsimp only; omega))) fun h2 => ?_
  · dsimp only
    rw [e1, e]; simp only [wh, ← hw, h2, cond_true]
  have had : ∀ j : Int, 0 ≤ j → j ≤ s'.b.length → lex_reader_ahead (GLex.mk (GLrd.mk s' j)) (Str.mk [45, 45]) = some (decide (hd (s'.b.drop j.toNat) = 45) && decide (hd (s'.b.drop (j.toNat + 1)) = 45), GLex.mk (GLrd.mk s' j)) := fun j j0 j1 => by
    rw [ahead_eq _ _ j0 j1]
    show some (isPre [45, 45] (s'.b.drop j.toNat), _) = _
    rw [isPre2 45 45 _ (by decide) (by decide), List.drop_drop]
  refine T.eq (had k k1 k2) ?_
  have hdy : hd (s'.b.drop k.toNat) = y := by rw [e]; rfl
  simp only [hdy]
  generalize hq3 : (decide (y = 45) && decide (hd (s'.b.drop (k.toNat + 1)) = 45)) = q3
  refine T.br (fun h3 => T.ck (by omega) ?_) (fun h3 => T.some ⟨rfl, ?_⟩)
  rotate_left
  · show k = _
    rw [e]; simp only [wh, ← hw, h2, cond_false, hq3, h3, List.length_cons, List.length_drop]; omega
  have h45 : hd (s'.b.drop (k.toNat + 1)) = 45 := by rw [← hq3] at h3; simpa using (Bool.and_eq_true_iff.1 h3).2
  have hlt := hd_ne h45
  obtain ⟨c, ec⟩ := skip1 hlt
  have e2 : (k + 2).toNat = k.toNat + 1 + 1 := by omega
  have hins : wh .out (s'.b.drop k.toNat) = wh .ins (s'.b.drop (k + 2).toNat) := by
    rw [e, e2]; simp only [wh, ← hw, h2, cond_false, hq3, h3, cond_true]; rw [ec]; simp only [wh]
  refine T.lp (ι := GLex) (fun q => q.reader.s = s' ∧ k + 2 ≤ q.reader.at_ ∧ q.reader.at_ ≤ s'.b.length ∧ wh .out (s'.b.drop k.toNat) = wh .ins (s'.b.drop q.reader.at_.toNat)) (fun q => (s'.b.length - q.reader.at_).toNat) ⟨rfl, Int.le_refl _, by dsimp only; omega, hins⟩ (by dsimp only; omega) fun L2 q hq hL2 => ?_
  obtain ⟨⟨s2, j⟩⟩ := q
  obtain ⟨es, j1, j2, j3⟩ := hq
  simp only at es j1 j2 j3 hL2
  subst es
  have hpj : lex_reader_peek (GLex.mk (GLrd.mk s2 j)) 0 = some (hd (s2.b.drop j.toNat), GLex.mk (GLrd.mk s2 j)) := by
    rw [peek_eq _ _ (by show 0 ≤ j + 0; omega) (by show j + 0 ≤ _; omega) hl]
    show some (hd (s2.b.drop (j + 0).toNat), _) = _
    rw [Int.add_zero]
  refine T.jp (ι := Bool × GLex) (fun p => p.2 = GLex.mk (GLrd.mk s2 j) ∧ (p.1 = true → j < s2.b.length ∧ hd (s2.b.drop j.toNat) ≠ 10 ∧ (decide (hd (s2.b.drop j.toNat) = 45) && decide (hd (s2.b.drop (j.toNat + 1)) = 45)) = false) ∧ (p.1 = false → s2.b.length ≤ j ∨ hd (s2.b.drop j.toNat) = 10 ∨ (decide (hd (s2.b.drop j.toNat) = 45) && decide (hd (s2.b.drop (j.toNat + 1)) = 45)) = true)) (fun J h => ?_) fun p hp => ?_
  · refine T.jp (ι := Bool × GLex) (fun p => p.2 = GLex.mk (GLrd.mk s2 j) ∧ (p.1 = true → j < s2.b.length ∧ hd (s2.b.drop j.toNat) ≠ 10) ∧ (p.1 = false → s2.b.length ≤ j ∨ hd (s2.b.drop j.toNat) = 10)) (fun J2 g => T.br (fun h4 => T.eq hpj (g _ ⟨rfl, fun h5 => ⟨of_decide_eq_true h4, by simpa using h5⟩, fun h5 => .inr (by simpa using h5)⟩)) fun h4 => g _ ⟨rfl, (fun h5 => by cases h5), fun _ => .inl (by have := of_decide_eq_false h4; dsimp only at this; omega)⟩) fun p hp => ?_
    obtain ⟨pb, pl⟩ := p
    obtain ⟨p1, p2, p3⟩ := hp
    simp only at p1 p2 p3
    subst p1
    refine T.jp (ι := Bool × GLex) (fun p => p.2 = GLex.mk (GLrd.mk s2 j) ∧ (p.1 = true → j < s2.b.length ∧ hd (s2.b.drop j.toNat) ≠ 10 ∧ (decide (hd (s2.b.drop j.toNat) = 45) && decide (hd (s2.b.drop (j.toNat + 1)) = 45)) = false) ∧ (p.1 = false → s2.b.length ≤ j ∨ hd (s2.b.drop j.toNat) = 10 ∨ (decide (hd (s2.b.drop j.toNat) = 45) && decide (hd (s2.b.drop (j.toNat + 1)) = 45)) = true)) (fun J3 g => T.br (fun h4 => T.eq (had j (by omega) j2) (g _ ⟨rfl, fun h5 => ⟨(p2 h4).1, (p2 h4).2, (Bool.not_eq_true' _).mp h5⟩, fun h5 => .inr (.inr ((Bool.not_eq_false' _).mp h5))⟩)) fun h4 => g _ ⟨rfl, (fun h5 => by cases h5), fun _ => (p3 h4).elim .inl fun z => .inr (.inl z)⟩) fun p hp => h _ hp
  obtain ⟨pb, pl⟩ := p
  obtain ⟨p1, p2, p3⟩ := hp
  simp only at p1 p2 p3
  subst p1
  have f1 : (j + 1).toNat = j.toNat + 1 := by omega
  have f2 : (j + 2).toNat = j.toNat + 1 + 1 := by omega
  refine T.br (fun h5 => T.ck (by dsimp only; have := p2 h5; omega) (hL2 _ ⟨rfl, by dsimp only; omega, by dsimp only; have := p2 h5; omega, ?_⟩ (by dsimp only; have := p2 h5; omega))) fun h5 => T.eq (had j (by omega) j2) ?_
  · obtain ⟨z1, z2, z3⟩ := p2 h5
    obtain ⟨y2, hy2⟩ : ∃ y, s2.b[j.toNat]? = some y := ⟨_, List.getElem?_eq_getElem (by omega)⟩
    have f := dropc hy2
    have hdy2 : hd (s2.b.drop j.toNat) = y2 := by rw [f]; rfl
    rw [hdy2] at z2 z3
    dsimp only
    rw [j3, f, f1]; simp only [wh, decide_eq_false z2, cond_false, z3]
  refine T.br (fun h6 => T.ck (by dsimp only; omega) (hL _ ⟨rfl, by dsimp only; omega, ?_, ?_⟩ ?_)) fun h6 => hL _ ⟨rfl, by dsimp only; omega, j2, ?_⟩ (by dsimp only; omega)
  · simp only at h6 ⊢
    have := hd_ne (by simpa using (Bool.and_eq_true_iff.1 h6).2)
    omega
  · simp only at h6 ⊢
    have h46 : hd (s2.b.drop (j.toNat + 1)) = 45 := by simpa using (Bool.and_eq_true_iff.1 h6).2
    have h40 : hd (s2.b.drop j.toNat) = 45 := by simpa using (Bool.and_eq_true_iff.1 h6).1
    have hlt2 := hd_ne h46
    obtain ⟨c2, ec2⟩ := skip1 hlt2
    obtain ⟨c3, ec3⟩ := skip1 (b := s2.b) (n := j.toNat) (by omega)
    have hc3 : c3 = 45 := by rw [ec3] at h40; exact h40
    rw [j3, f2, ec3]; subst hc3
    simp only [wh, h46, decide_true, Bool.and_self, cond_true]
    rw [ec2]; rfl
  · simp only at h6 ⊢
    have := hd_ne (by simpa using (Bool.and_eq_true_iff.1 h6).2)
    omega
  · simp only at h6 ⊢
    rw [j3]
    rcases p3 h5 with z | z | z
    · rw [List.drop_eq_nil_of_le (by omega)]; rfl
    · rcases Nat.lt_or_ge j.toNat s2.b.length with z2 | z2
      · obtain ⟨c3, ec3⟩ := skip1 z2
        have hc3 : c3 = 10 := by rw [ec3] at z; exact z
        rw [ec3, wh_ins_end _ _ hc3]
      · rw [List.drop_eq_nil_of_le z2]; rfl
    · rw [h6] at z; cases z

/-! ### Words -/
def chainW {β : Type} (s : Str) (J : Bool → Option β) : List Str → Option β
  | [] => J false
  | [w] => J (decide (s = w))
  | w :: r => br (decide (s = w)) (J (decide (s = w))) (chainW s J r)
theorem same_dec (s w : Str) : decide (s = w) = sameB w.b s.b := by
  rw [Bool.eq_iff_iff, decide_eq_true_eq, sameB_iff]
  constructor
  · intro h; rw [h]
  · intro h; cases s; cases w; simp only at h; rw [h]
theorem chainW_eq {β : Type} (s : Str) (J : Bool → Option β) : ∀ l, chainW s J l = J (l.any fun w => sameB w.b s.b)
  | [] => rfl
  | [w] => by simp only [chainW, List.any_cons, List.any_nil, Bool.or_false, same_dec]
  | w :: v :: r => by
    have := chainW_eq s J (v :: r)
    simp only [chainW, same_dec] at this ⊢
    rw [List.any_cons]
    cases h : sameB w.b s.b with
    | true => rfl
    | false => simp only [Bool.false_or]; exact this
theorem cword (s : Str) : lex_Word s = some (isWord s.b) := by
  have h : lex_Word s = jp (ι := Bool) (fun J2 => chainW s J2 wordsL) (fun q1 => br q1 (some (true)) (some (false))) := rfl
  rw [h]
  refine tx (T.jp (fun q => q = isWord s.b) (fun J k => ?_) fun q hq => ?_)
  · rw [chainW_eq]; exact k _ rfl
  · rw [← hq]; cases q <;> exact T.some rfl

/-! ### Names -/
theorem nm_step (b : List UInt8) (k : Nat) : nm (b.drop k) = bif inName (hd (b.drop k)) (b.drop (k + 1)) then nm (b.drop (k + 1)) + 1 else 0 := by
  rcases Nat.lt_or_ge k b.length with h | h
  · obtain ⟨c, e⟩ := skip1 h
    rw [e]; rfl
  · rw [List.drop_eq_nil_of_le h]
    simp [hd, inName, isLetter, isDigit, nm]
theorem inName_lt {b : List UInt8} {k : Nat} {r : List UInt8} (h : inName (hd (b.drop k)) r = true) : k < b.length := by
  rcases Nat.lt_or_ge k b.length with h2 | h2
  · exact h2
  · rw [List.drop_eq_nil_of_le h2] at h
    simp [hd, inName, isLetter, isDigit] at h
theorem cname (x : GLex) (h0 : 0 ≤ x.reader.at_) (h1 : x.reader.at_ < x.reader.s.b.length) (hl : x.reader.s.b.length ≤ 1000000) (hc : isLetter (hd (x.reader.s.b.drop x.reader.at_.toNat)) = true) :
    T (fun r => bif nmBad (x.reader.s.b.drop x.reader.at_.toNat) then r.1 = 0 else r = ((bif isWord ((x.reader.s.b.drop x.reader.at_.toNat).take (nm (x.reader.s.b.drop x.reader.at_.toNat))) then 5 else bif decide (hd (x.reader.s.b.drop x.reader.at_.toNat) ≤ 90) then 1 else 2 : Int), Str.mk ((x.reader.s.b.drop x.reader.at_.toNat).take (nm (x.reader.s.b.drop x.reader.at_.toNat))), GLex.mk (GLrd.mk x.reader.s (x.reader.at_ + nm (x.reader.s.b.drop x.reader.at_.toNat))))) (lex_lexer_name x) := by
  obtain ⟨⟨s, i⟩⟩ := x
  simp only at h0 h1 hl hc ⊢
  unfold lex_lexer_name
  generalize hd0 : s.b.drop i.toNat = d at hc ⊢
  have hi0 : 0 < nm d := nm_pos hc
  have hpk : ∀ k : Int, 0 ≤ k → k ≤ s.b.length → lex_reader_peek (GLex.mk (GLrd.mk s k)) 0 = some (hd (s.b.drop k.toNat), GLex.mk (GLrd.mk s k)) := fun k k0 k1 => by
    rw [peek_eq _ _ (by show 0 ≤ k + 0; omega) (by show k + 0 ≤ _; omega) hl]
    show some (hd (s.b.drop (k + 0).toNat), _) = _
    rw [Int.add_zero]
  have hpk1 : ∀ k : Int, 0 ≤ k → k ≤ s.b.length → lex_reader_peek (GLex.mk (GLrd.mk s k)) 1 = some (hd (s.b.drop (k.toNat + 1)), GLex.mk (GLrd.mk s k)) := fun k k0 k1 => by
    rw [peek_eq _ _ (by show 0 ≤ k + 1; omega) (by show k + 1 ≤ _; omega) hl]
    show some (hd (s.b.drop (k + 1).toNat), _) = _
    rw [show (k + 1).toNat = k.toNat + 1 by omega]
  refine T.eq (hpk i h0 (by omega)) ?_
  refine T.lp (ι := UInt8 × GLex) (fun q => ∃ k : Int, q = (hd (s.b.drop k.toNat), GLex.mk (GLrd.mk s k)) ∧ i ≤ k ∧ k ≤ s.b.length ∧ (nm d : Int) = k - i + nm (s.b.drop k.toNat)) (fun q => (s.b.length - q.2.reader.at_).toNat) ⟨i, rfl, Int.le_refl _, by omega, by rw [hd0]; omega⟩ (by dsimp only; omega) fun L q hq hL => ?_
  obtain ⟨k, rfl, k1, k2, k3⟩ := hq
  simp only at hL ⊢
  have ek : (k + 1).toNat = k.toNat + 1 := by omega
  rw [nm_step] at k3
  refine T.eq (clet _) (T.jp (fun q => q = (isLetter (hd (s.b.drop k.toNat)) || isDigit (hd (s.b.drop k.toNat)))) (fun J2 h2 => T.br (fun h3 => h2 _ (by rw [h3]; rfl)) fun h3 => T.eq (cdig _) (h2 _ (by rw [h3]; rfl))) fun q hq => ?_)
  refine T.jp (ι := Bool × GLex) (fun p => p = (inName (hd (s.b.drop k.toNat)) (s.b.drop (k.toNat + 1)), GLex.mk (GLrd.mk s k))) (fun J2 h2 => T.br (fun h3 => h2 _ (by unfold inName; rw [← hq, h3]; rfl)) fun h3 => ?_) fun p hp => ?_
  · refine T.jp (ι := Bool × GLex) (fun p => p = (decide (hd (s.b.drop k.toNat) = 45) && !decide (hd (s.b.drop (k.toNat + 1)) = 45), GLex.mk (GLrd.mk s k))) (fun J3 h4 => T.br (fun h5 => T.eq (hpk1 k (by omega) k2) (h4 _ (by rw [h5]; rfl))) fun h5 => h4 _ (by rw [h5]; rfl)) fun p hp => h2 _ ?_
    subst hp
    unfold inName; rw [← hq, h3]; rfl
  subst hp
  simp only
  refine T.br (fun h3 => ?_) fun h3 => ?_
  · have hlt := inName_lt h3
    rw [h3, cond_true] at k3
    refine T.ck (by omega) (T.eq (hpk (k + 1) (by omega) (by omega)) (hL _ ⟨k + 1, rfl, by omega, by omega, by rw [ek]; omega⟩ (by dsimp only; omega)))
  rw [h3, cond_false] at k3
  have hn : nm d = k.toNat - i.toNat := by omega
  have hseg : (s.b.take k.toNat).drop i.toNat = d.take (nm d) := by rw [seg, hd0, hn]
  have hdl : d.length = s.b.length - i.toNat := by rw [← hd0, List.length_drop]
  have hlen : (d.take (nm d)).length = nm d := by rw [List.length_take]; omega
  refine T.asd ⟨h0, k1, k2⟩ ?_
  rw [hseg]
  refine T.jp (fun b => b = nmBad d) (fun J h => T.br (fun h4 => h _ ?_) fun h4 => T.ck (by simp only [hlen]; omega) (T.get (by simp only [hlen]; omega) (by simp only [hlen]; omega) fun y hy => h _ ?_)) fun b hb => ?_
  · have := of_decide_eq_true h4
    simp only [hlen] at this
    unfold nmBad
    rw [decide_eq_true (show 60 < nm d by omega), Bool.or_true]
  · have := of_decide_eq_false h4
    simp only [hlen] at this hy
    unfold nmBad
    rw [decide_eq_false (show ¬ 60 < nm d by omega), Bool.or_false, List.getLast?_eq_getElem?, hlen, show nm d - 1 = ((nm d : Int) - 1).toNat by omega, hy]
    rw [decide_eq_decide]; simp
  rw [← hb]
  refine T.br (fun h4 => T.some (by rw [h4]; rfl)) fun h4 => ?_
  rw [h4]
  simp only [cond_false]
  have hat : (GLex.mk (GLrd.mk s k)) = GLex.mk (GLrd.mk s (i + nm d)) := by rw [show i + (nm d : Int) = k by omega]
  refine T.eq (cword _) (T.br (fun h5 => T.some ?_) fun h5 => T.get (Int.le_refl _) (by simp only [hlen]; omega) fun y hy => ?_)
  · simp only at h5; rw [h5, hat]; rfl
  · simp only at h5 hy
    have hyd : hd d = y := by
      rw [List.getElem?_take] at hy
      rw [if_pos (by omega)] at hy
      cases d with
      | nil => cases hy
      | cons c r => simpa [hd] using hy
    rw [h5, hyd, hat]
    exact T.br (fun h6 => T.some (by rw [h6]; rfl)) fun h6 => T.some (by rw [h6]; rfl)
end Go.Proofs.YtbinnmophpfmlaaDoor


namespace Go.Proofs.YtbinnmophpfmlaaDoor
open Go.Sy
set_option linter.unusedVariables false

def dfold (acc : Nat) (l : List UInt8) : Nat := l.foldl (fun v d => 10 * v + (d.toNat - 48)) acc
theorem dfold_ge : ∀ (l : List UInt8) (acc : Nat), acc * 10 ^ l.length ≤ dfold acc l
  | [], acc => by simp [dfold]
  | d :: l, acc => by
    have h := dfold_ge l (10 * acc + (d.toNat - 48))
    refine Nat.le_trans ?_ h
    rw [List.length_cons, Nat.pow_succ, Nat.mul_comm (10 ^ l.length) 10, ← Nat.mul_assoc, Nat.mul_comm acc 10]
    exact Nat.mul_le_mul_right _ (Nat.le_add_right _ _)
theorem dfold_mono (l : List UInt8) (acc : Nat) : acc ≤ dfold acc l :=
  Nat.le_trans (Nat.le_mul_of_pos_right acc (Nat.pow_pos (by omega))) (dfold_ge l acc)
theorem parseM : ∀ (l : List UInt8) (acc : Nat), digs l → acc ≤ 18446744073709551615 → Lib.parseUintM 18446744073709551615 acc l = if dfold acc l ≤ 18446744073709551615 then .ok (dfold acc l) else .range
  | [], acc, _, h => by
    rw [Lib.parseUintM, if_pos (show dfold acc [] ≤ _ from h)]; rfl
  | d :: l, acc, hd, h => by
    have hr := digit_range (hd d (List.mem_cons_self ..))
    have hm := dfold_mono l (10 * acc + (d.toNat - 48))
    have e : dfold acc (d :: l) = dfold (10 * acc + (d.toNat - 48)) l := rfl
    rw [Lib.parseUintM, if_pos hr, e]
    by_cases h1 : 1844674407370955162 ≤ acc
    · rw [if_pos h1, if_neg (by omega)]
    · rw [if_neg h1]
      by_cases h2 : 18446744073709551615 < acc * 10 + (d.toNat - 48)
      · rw [if_pos h2, if_neg (by omega)]
      · rw [if_neg h2, parseM l _ (fun x hx => hd x (List.mem_cons_of_mem _ hx)) (by omega), Nat.mul_comm acc 10]
theorem parseU (D : List UInt8) (hD : digs D) (hne : D ≠ []) : Lib.parseUintB 64 D = if dval D ≤ 18446744073709551615 then .ok (dval D) else .range := by
  unfold Lib.parseUintB
  rw [if_neg hne]
  exact parseM D 0 hD (by omega)
def badV (m : Bool) (v : Nat) : Bool := !(decide (v < 9223372036854775808) || (m && decide (v = 9223372036854775808)))
theorem cparse (m : Bool) (D : List UInt8) (hD : digs D) (hne : D ≠ []) (hl : D.length ≤ 1000000) : T (fun r => r.2.bad = badV m (dval D)) (strconv_ParseInt (Str.mk (bif m then 45 :: D else D)) 10 64) := by
  obtain ⟨c, r, rfl⟩ := List.exists_cons_of_ne_nil hne
  have hr := digit_range (hD c (List.mem_cons_self ..))
  have hu := parseU _ hD hne
  have hlen : Nat.ble (bif m then 45 :: c :: r else c :: r).length 281474976710656 = true := Nat.ble_eq_true_of_le (by cases m <;> simp only [cond_true, cond_false, List.length_cons] at hl ⊢ <;> omega)
  unfold strconv_ParseInt
  rw [show (decide ((10 : Int) = 10) && decide ((64 : Int) = 64) && Nat.ble (Str.mk (bif m then 45 :: c :: r else c :: r)).b.length 281474976710656) = true by rw [hlen]; rfl, cond_true]
  cases m with
  | true =>
    simp only [cond_true]
    unfold Lib.parseIntB
    simp only [show (45 : UInt8).toNat = 45 from rfl, or_true, if_true, hu]
    by_cases h1 : dval (c :: r) ≤ 18446744073709551615
    · simp only [if_pos h1]
      by_cases h2 : 9223372036854775808 < dval (c :: r)
      · simp only [not_true, false_and, if_false, true_and, if_pos (show 2 ^ (64 - 1) < dval (c :: r) from h2)]
        refine T.some ?_
        show true = _
        unfold badV; simp; omega
      · simp only [not_true, false_and, if_false, true_and, if_neg (show ¬ 2 ^ (64 - 1) < dval (c :: r) from h2)]
        refine T.some ?_
        show false = _
        unfold badV; simp; omega
    · simp only [if_neg h1]
      refine T.some ?_
      show true = _
      unfold badV; simp; omega
  | false =>
    simp only [cond_false]
    unfold Lib.parseIntB
    have n45 : ¬ c.toNat = 45 := by omega
    have n43 : ¬ (c.toNat = 43 ∨ c.toNat = 45) := by omega
    simp only [if_neg n43, hu]
    by_cases h1 : dval (c :: r) ≤ 18446744073709551615
    · simp only [if_pos h1]
      by_cases h2 : 9223372036854775808 ≤ dval (c :: r)
      · simp only [n45, not_false_eq_true, true_and, if_pos (show 2 ^ (64 - 1) ≤ dval (c :: r) from h2)]
        refine T.some ?_
        show true = _
        unfold badV; simp; omega
      · simp only [n45, not_false_eq_true, true_and, false_and, if_false, if_neg (show ¬ 2 ^ (64 - 1) ≤ dval (c :: r) from h2)]
        refine T.some ?_
        show false = _
        unfold badV; simp; omega
    · simp only [if_neg h1]
      refine T.some ?_
      show true = _
      unfold badV; simp; omega
theorem dg_digs : ∀ d : List UInt8, digs (d.take (dg d))
  | [] => fun x hx => by simp at hx
  | c :: r => fun x hx => by
    have ih := dg_digs r
    rw [dg_cons] at hx
    cases h : isDigit c with
    | false => rw [h] at hx; simp at hx
    | true =>
      rw [h] at hx
      simp only [cond_true, List.take_succ_cons, List.mem_cons] at hx
      rcases hx with rfl | hx
      · exact h
      · exact ih x hx
theorem dval_ge {d : UInt8} {l : List UInt8} (h : digs (d :: l)) (hd : d ≠ 48) : 10 ^ l.length ≤ dval (d :: l) := by
  have h1 := digit_range (h d (List.mem_cons_self ..))
  have h2 : d.toNat ≠ 48 := fun e => hd (UInt8.toNat_inj.1 e)
  have h3 := dfold_ge l (10 * 0 + (d.toNat - 48))
  refine Nat.le_trans ?_ h3
  exact Nat.le_mul_of_pos_left _ (by omega)
theorem pow19' {n : Nat} (h : 19 ≤ n) : 10000000000000000000 ≤ 10 ^ n := by
  have := Nat.pow_le_pow_right (show 0 < 10 by omega) h
  simpa using this
theorem num_same {m : Bool} {d : List UInt8} (hn : 1 ≤ dg d) : (badV m (dval (d.take (dg d))) || (decide (hd d = 48) && (decide (1 < dg d) || m)) || isLetter (hd (d.drop (dg d)))) = numBad m d := by
  have hD := dg_digs d
  have hlen : (d.take (dg d)).length = dg d := by rw [List.length_take]; have := dg_le d; omega
  unfold numBad
  rw [decide_eq_false (show ¬ dg d < 1 by omega), Bool.false_or]
  by_cases h19 : dg d ≤ 19
  · have hu := uval_dval _ hD (by rw [hlen]; exact h19)
    rw [decide_eq_false (show ¬ 19 < dg d by omega), Bool.false_or]
    have e1 : decide (9223372036854775808 < uval (d.take (dg d))) = decide (9223372036854775808 < dval (d.take (dg d))) := decide_eq_decide.2 (by rw [UInt64.lt_iff_toNat_lt, hu]; rfl)
    have e2 : decide (uval (d.take (dg d)) = 9223372036854775808) = decide (dval (d.take (dg d)) = 9223372036854775808) := decide_eq_decide.2 (by rw [← UInt64.toNat_inj, hu]; rfl)
    rw [e1, e2]
    unfold badV
    generalize decide (hd d = 48) = A
    generalize decide (1 < dg d) = B
    generalize isLetter (hd (d.drop (dg d))) = C
    rcases Nat.lt_trichotomy (dval (d.take (dg d))) 9223372036854775808 with h | h | h
    · rw [decide_eq_true h, decide_eq_false (show ¬ 9223372036854775808 < dval (d.take (dg d)) by omega), decide_eq_false (show ¬ dval (d.take (dg d)) = 9223372036854775808 by omega)]
      cases m <;> cases A <;> cases B <;> cases C <;> rfl
    · rw [decide_eq_true h, decide_eq_false (show ¬ 9223372036854775808 < dval (d.take (dg d)) by omega), decide_eq_false (show ¬ dval (d.take (dg d)) < 9223372036854775808 by omega)]
      cases m <;> cases A <;> cases B <;> cases C <;> rfl
    · rw [decide_eq_true h, decide_eq_false (show ¬ dval (d.take (dg d)) < 9223372036854775808 by omega), decide_eq_false (show ¬ dval (d.take (dg d)) = 9223372036854775808 by omega)]
      cases m <;> cases A <;> cases B <;> cases C <;> rfl
  · rw [decide_eq_true (show 19 < dg d by omega), decide_eq_true (show 1 < dg d by omega)]
    simp only [Bool.true_or, Bool.and_true]
    by_cases h48 : hd d = 48
    · rw [decide_eq_true h48]; simp
    · have hb : badV m (dval (d.take (dg d))) = true := by
        have hne : d.take (dg d) ≠ [] := fun e => by rw [e] at hlen; simp at hlen; omega
        obtain ⟨c, r, e⟩ := List.exists_cons_of_ne_nil hne
        have hc : c ≠ 48 := by
          intro e48
          apply h48
          cases d with
          | nil => simp at e
          | cons x y =>
            have : dg (x :: y) = (dg (x :: y) - 1) + 1 := by omega
            rw [this, List.take_succ_cons] at e
            injection e with e1 e2
            show x = 48
            rw [e1, e48]
        rw [e] at hD hlen ⊢
        have := dval_ge hD hc
        have h2 := pow19' (n := r.length) (by rw [List.length_cons] at hlen; omega)
        unfold badV; simp; omega
      rw [hb]; rfl
theorem dg_step (b : List UInt8) (k : Nat) : dg (b.drop k) = bif isDigit (hd (b.drop k)) then dg (b.drop (k + 1)) + 1 else 0 := by
  rcases Nat.lt_or_ge k b.length with h | h
  · obtain ⟨c, e⟩ := skip1 h
    rw [e]; rfl
  · rw [List.drop_eq_nil_of_le h]; rfl
theorem dig_lt {b : List UInt8} {k : Nat} (h : isDigit (hd (b.drop k)) = true) : k < b.length := by
  rcases Nat.lt_or_ge k b.length with h2 | h2
  · exact h2
  · rw [List.drop_eq_nil_of_le h2] at h; cases h
theorem cnumber (s : Str) (i : Int) (h0 : 0 ≤ i) (h1 : i < s.b.length) (hl : s.b.length ≤ 1000000) (hp : isDigit (hd (s.b.drop i.toNat)) = true ∨ (hd (s.b.drop i.toNat) = 45 ∧ isDigit (hd (s.b.drop (i.toNat + 1))) = true)) :
    T (fun r => match numLen (s.b.drop i.toNat) with
      | none => r.1 = 0
      | some n => r = ((3 : Int), Str.mk ((s.b.drop i.toNat).take n), GLex.mk (GLrd.mk s (i + n)))) (lex_lexer_number (GLex.mk (GLrd.mk s i))) := by
  unfold lex_lexer_number
  have hpk : ∀ k : Int, 0 ≤ k → k ≤ s.b.length → lex_reader_peek (GLex.mk (GLrd.mk s k)) 0 = some (hd (s.b.drop k.toNat), GLex.mk (GLrd.mk s k)) := fun k k0 k1 => by
    rw [peek_eq _ _ (by show 0 ≤ k + 0; omega) (by show k + 0 ≤ _; omega) hl]
    show some (hd (s.b.drop (k + 0).toNat), _) = _
    rw [Int.add_zero]
  refine T.eq (hpk i h0 (by omega)) ?_
  simp only
  refine T.jp (ι := GLex) (fun q => ∃ f : Int, q = GLex.mk (GLrd.mk s f) ∧ i ≤ f ∧ f ≤ i + 1 ∧ isDigit (hd (s.b.drop f.toNat)) = true ∧ decide (i < f) = decide (hd (s.b.drop i.toNat) = 45) ∧
      numLen (s.b.drop i.toNat) = (bif numBad (decide (i < f)) (s.b.drop f.toNat) then none else some (dg (s.b.drop f.toNat) + (f - i).toNat))) (fun J h => T.br (fun hb => T.ck (by omega) (h _ ⟨i + 1, rfl, by omega, by omega, ?_, ?_, ?_⟩)) fun hb => h _ ⟨i, rfl, Int.le_refl _, by omega, ?_, ?_, ?_⟩) fun q hq => ?_
  · have e1 : (i + 1).toNat = i.toNat + 1 := by omega
    rw [e1]
    rcases hp with hp | hp
    · have := of_decide_eq_true hb
      rw [this] at hp; cases hp
    · exact hp.2
  · rw [hb, decide_eq_true (show i < i + 1 by omega)]
  · have e1 : (i + 1).toNat = i.toNat + 1 := by omega
    have e2 : (i + 1 - i).toNat = 1 := by omega
    unfold numLen
    rw [hb, cond_true, e1, e2, List.drop_drop, decide_eq_true (show i < i + 1 by omega)]
  · rcases hp with hp | hp
    · exact hp
    · exact absurd hp.1 (of_decide_eq_false hb)
  · rw [hb, decide_eq_false (show ¬ i < i by omega)]
  · have e2 : (i - i).toNat = 0 := by omega
    unfold numLen
    rw [hb, cond_false, e2, Nat.add_zero, decide_eq_false (show ¬ i < i by omega)]
  obtain ⟨f, rfl, f1, f2, f3, f4, f5⟩ := hq
  have hflt := dig_lt f3
  generalize hm : decide (i < f) = m at f4 f5
  generalize hdd : s.b.drop f.toNat = dd at f3 f5
  have hn1 : 1 ≤ dg dd := by
    have := dg_step s.b f.toNat
    rw [hdd, f3, cond_true] at this
    omega
  refine T.lp (ι := GLex) (fun q => ∃ k : Int, q = GLex.mk (GLrd.mk s k) ∧ f ≤ k ∧ k ≤ s.b.length ∧ (dg dd : Int) = k - f + dg (s.b.drop k.toNat)) (fun q => (s.b.length - q.reader.at_).toNat) ⟨f, rfl, Int.le_refl _, by omega, by rw [hdd]; omega⟩ (by dsimp only; omega) fun L q hq hL => ?_
  obtain ⟨k, rfl, k1, k2, k3⟩ := hq
  have ek : (k + 1).toNat = k.toNat + 1 := by omega
  rw [dg_step] at k3
  refine T.eq (hpk k (by omega) k2) (T.eq (cdig _) (T.br (fun h3 => ?_) fun h3 => ?_))
  · simp only at h3
    have := dig_lt h3
    rw [h3, cond_true] at k3
    exact T.ck (by dsimp only; omega) (hL _ ⟨k + 1, rfl, by omega, by omega, by rw [ek]; omega⟩ (by dsimp only; omega))
  simp only at h3
  rw [h3, cond_false] at k3
  have hdn : dg dd = k.toNat - f.toNat := by omega
  have hD := dg_digs dd
  have hdl : dd.length = s.b.length - f.toNat := by rw [← hdd, List.length_drop]
  have hlen : (dd.take (dg dd)).length = dg dd := by rw [List.length_take]; omega
  have hseg : (s.b.take k.toNat).drop f.toNat = dd.take (dg dd) := by rw [seg, hdd, hdn]
  have htext : (s.b.take k.toNat).drop i.toNat = bif m then 45 :: dd.take (dg dd) else dd.take (dg dd) := by
    cases m with
    | true =>
      have hif := of_decide_eq_true hm
      have h45 : hd (s.b.drop i.toNat) = 45 := of_decide_eq_true f4.symm
      obtain ⟨c, ec⟩ := skip1 (b := s.b) (n := i.toNat) (by omega)
      have hc : c = 45 := by rw [ec] at h45; exact h45
      have hg : s.b[i.toNat]? = some c := by
        have := congrArg (fun l => l[0]?) ec
        simpa using this
      rw [seg_cons (by omega) (by omega) hg, hc, show i.toNat + 1 = f.toNat by omega, hseg]; rfl
    | false =>
      have hif := of_decide_eq_false hm
      rw [show i.toNat = f.toNat by omega, hseg]; rfl
  refine T.asd ⟨h0, by dsimp only; omega, k2⟩ ?_
  simp only
  rw [htext]
  refine T.get (by omega) (by omega) fun y36 hy36 => ?_
  have hy : hd dd = y36 := by rw [← hdd, dropc hy36]; rfl
  refine T.cal (cparse m _ hD (fun e => by rw [e] at hlen; simp at hlen; omega) (by omega)) fun y37 _ hy37 => ?_
  refine T.jp (fun b => b = (badV m (dval (dd.take (dg dd))) || (decide (hd dd = 48) && (decide (1 < dg dd) || m)))) (fun J h => T.br (fun h4 => h _ (by rw [← hy37, h4]; rfl)) fun h4 => ?_) fun b38 hb38 => ?_
  · refine T.jp (fun b => b = (decide (hd dd = 48) && (decide (1 < dg dd) || m))) (fun J2 h5 => T.br (fun h6 => T.ck (by omega) ?_) fun h6 => h5 _ (by rw [hy, h6]; rfl)) fun b hb => h _ (by rw [← hy37, h4, hb]; rfl)
    have e1 : decide ((1 : Int) < k - f) = decide (1 < dg dd) := decide_eq_decide.2 (by omega)
    refine T.jp (fun b => b = (decide (1 < dg dd) || m)) (fun J3 h7 => T.br (fun h8 => h7 _ (by rw [← e1, h8]; rfl)) fun h8 => h7 _ (by rw [← e1, h8]; rfl)) fun b hb => h5 _ (by rw [hy, h6, hb]; rfl)
  have hdk : dd.drop (dg dd) = s.b.drop k.toNat := by rw [← hdd, List.drop_drop, hdd]; congr 1; omega
  refine T.jp (ι := Bool × GLex) (fun p => p = (numBad m dd, GLex.mk (GLrd.mk s k))) (fun J h => T.br (fun h4 => h _ ?_) fun h4 => T.eq (hpk k (by omega) k2) (T.eq (clet _) (h _ ?_))) fun p hp => ?_
  · rw [← num_same hn1, ← hb38, h4]; rfl
  · rw [← num_same hn1, ← hb38, h4, hdk]; rfl
  subst hp
  rw [f5]
  cases hbad : numBad m dd with
  | true => exact T.br (fun _ => T.some rfl) fun h => by cases h
  | false =>
    refine T.br (fun h => by cases h) fun _ => T.some ?_
    simp only [cond_false]
    have e1 : (i : Int) + ((dg dd + (f - i).toNat : Nat) : Int) = k := by omega
    have e2 : (s.b.drop i.toNat).take (dg dd + (f - i).toNat) = bif m then 45 :: dd.take (dg dd) else dd.take (dg dd) := by
      rw [← htext, seg]; congr 1; omega
    rw [e1, e2]
end Go.Proofs.YtbinnmophpfmlaaDoor


namespace Go.Proofs.YtbinnmophpfmlaaDoor
open Go.Sy
set_option linter.unusedVariables false

theorem peek0 (s : Str) (hl : s.b.length ≤ 1000000) (k : Int) (k0 : 0 ≤ k) (k1 : k ≤ s.b.length) : lex_reader_peek (GLex.mk (GLrd.mk s k)) 0 = some (hd (s.b.drop k.toNat), GLex.mk (GLrd.mk s k)) := by
  rw [peek_eq _ _ (by show 0 ≤ k + 0; omega) (by show k + 0 ≤ _; omega) hl]
  show some (hd (s.b.drop (k + 0).toNat), _) = _
  rw [Int.add_zero]
theorem peek1 (s : Str) (hl : s.b.length ≤ 1000000) (k : Int) (k0 : 0 ≤ k) (k1 : k ≤ s.b.length) : lex_reader_peek (GLex.mk (GLrd.mk s k)) 1 = some (hd (s.b.drop (k.toNat + 1)), GLex.mk (GLrd.mk s k)) := by
  rw [peek_eq _ _ (by show 0 ≤ k + 1; omega) (by show k + 1 ≤ _; omega) hl]
  show some (hd (s.b.drop (k + 1).toNat), _) = _
  rw [show (k + 1).toNat = k.toNat + 1 by omega]

/-! ### Hexes -/
theorem hx_step (b : List UInt8) (k : Nat) : hx (b.drop k) = bif isHex (hd (b.drop k)) then hx (b.drop (k + 1)) + 1 else 0 := by
  rcases Nat.lt_or_ge k b.length with h | h
  · obtain ⟨c, e⟩ := skip1 h
    rw [e]; rfl
  · rw [List.drop_eq_nil_of_le h]; rfl
theorem hex_lt {b : List UInt8} {k : Nat} (h : isHex (hd (b.drop k)) = true) : k < b.length := by
  rcases Nat.lt_or_ge k b.length with h2 | h2
  · exact h2
  · rw [List.drop_eq_nil_of_le h2] at h; cases h
theorem chex (s : Str) (i : Int) (h0 : 0 ≤ i) (h1 : i < s.b.length) (hl : s.b.length ≤ 1000000) :
    T (fun r => bif hexBad (s.b.drop (i.toNat + 1)) then r.1 = 0 else r = ((4 : Int), Str.mk ((s.b.drop (i.toNat + 1)).take (hx (s.b.drop (i.toNat + 1)))), GLex.mk (GLrd.mk s (i + 1 + hx (s.b.drop (i.toNat + 1)) + 2)))) (lex_lexer_hex (GLex.mk (GLrd.mk s i))) := by
  unfold lex_lexer_hex
  have e0 : (i + 1).toNat = i.toNat + 1 := by omega
  generalize hdd : s.b.drop (i.toNat + 1) = dd
  simp only
  refine T.ck (by omega) (T.eq (peek0 s hl (i + 1) (by omega) (by omega)) ?_)
  refine T.lp (ι := UInt8 × GLex) (fun q => ∃ k : Int, q = (hd (s.b.drop k.toNat), GLex.mk (GLrd.mk s k)) ∧ i + 1 ≤ k ∧ k ≤ s.b.length ∧ (hx dd : Int) = k - (i + 1) + hx (s.b.drop k.toNat)) (fun q => (s.b.length - q.2.reader.at_).toNat) ⟨i + 1, rfl, Int.le_refl _, by omega, by rw [e0, hdd]; omega⟩ (by dsimp only; omega) fun L q hq hL => ?_
  obtain ⟨k, rfl, k1, k2, k3⟩ := hq
  simp only at hL ⊢
  have ek : (k + 1).toNat = k.toNat + 1 := by omega
  rw [hx_step] at k3
  generalize hc : hd (s.b.drop k.toNat) = c at *
  refine T.eq (cdig c) (T.jp (fun q => q = isHex c) (fun J2 h3 => T.br (fun h4 => h3 _ (by unfold isHex; rw [h4]; rfl)) fun h4 => ?_) fun q hq => ?_)
  · exact T.jp (fun q => q = (decide (65 ≤ c) && decide (c ≤ 70))) (fun J4 h5 => T.br (fun h6 => h5 _ (by rw [h6]; rfl)) fun h6 => h5 _ (by rw [h6]; rfl)) fun q hq => h3 _ (by unfold isHex; rw [h4, hq]; rfl)
  subst hq
  refine T.br (fun h3 => ?_) fun h3 => ?_
  · have hlt := hex_lt (b := s.b) (k := k.toNat) (by rw [hc]; exact h3)
    rw [h3, cond_true] at k3
    exact T.ck (by omega) (T.eq (peek0 s hl (k + 1) (by omega) (by omega)) (hL _ ⟨k + 1, rfl, by omega, by omega, by rw [ek]; omega⟩ (by dsimp only; omega)))
  rw [h3, cond_false] at k3
  have hn : hx dd = k.toNat - (i.toNat + 1) := by omega
  have hdl : dd.length = s.b.length - (i.toNat + 1) := by rw [← hdd, List.length_drop]
  have hlen : (dd.take (hx dd)).length = hx dd := by rw [List.length_take]; omega
  have hseg : (s.b.take k.toNat).drop (i + 1).toNat = dd.take (hx dd) := by rw [seg, e0, hdd, hn]
  have hdk : dd.drop (hx dd) = s.b.drop k.toNat := by rw [← hdd, List.drop_drop, hdd]; congr 1; omega
  have hdk1 : dd.drop (hx dd + 1) = s.b.drop (k.toNat + 1) := by rw [← hdd, List.drop_drop, hdd]; congr 1; omega
  refine T.asd ⟨by omega, k1, k2⟩ (T.asr rfl ?_)
  rw [hseg]
  simp only [hlen]
  have hmod : decide (((hx dd : Nat) : Int).tmod 2 = 0) = decide (hx dd % 2 = 0) := by
    rw [decide_eq_decide, Int.tmod_eq_emod_of_nonneg (by omega)]
    omega
  refine T.jp (ι := Bool × GLex) (fun p => p = (hexBad dd, GLex.mk (GLrd.mk s k))) (fun J h => T.br (fun h4 => h _ ?_) fun h4 => T.eq (ahead_eq _ _ (by show 0 ≤ k; omega) k2) (h _ ?_)) fun p hp => ?_
  · rw [hmod] at h4
    unfold hexBad; rw [h4]; rfl
  · rw [hmod] at h4
    unfold hexBad
    rw [h4, hdk, hdk1]
    show (!isPre [39, 72] (s.b.drop k.toNat), _) = _
    rw [isPre2 39 72 _ (by decide) (by decide), List.drop_drop]
    cases decide (hd (s.b.drop k.toNat) = 39) <;> cases decide (hd (s.b.drop (k.toNat + 1)) = 72) <;> rfl
  subst hp
  cases hb : hexBad dd with
  | true => exact T.br (fun _ => T.some rfl) fun h => by cases h
  | false =>
    refine T.br (fun h => by cases h) fun _ => T.ck (by dsimp only; omega) (T.some ?_)
    simp only [cond_false]
    rw [show i + 1 + (hx dd : Int) + 2 = k + 2 by omega]

/-! ### Strings -/
theorem ctext (s : Str) (i : Int) (h0 : 0 ≤ i) (h1 : i < s.b.length) (hl : s.b.length ≤ 1000000) :
    T (fun r => match qd false (s.b.drop (i.toNat + 1)) [] with
      | none => r.1 = 0
      | some (t, rest) => r = ((7 : Int), Str.mk t, GLex.mk (GLrd.mk s ((s.b.length : Int) - (rest.length : Int))))) (lex_lexer_text (GLex.mk (GLrd.mk s i))) := by
  unfold lex_lexer_text
  have e0 : (i + 1).toNat = i.toNat + 1 := by omega
  simp only
  refine T.ck (by omega) (T.lp (ι := List UInt8 × GLex) (fun q => ∃ k : Int, q.2 = GLex.mk (GLrd.mk s k) ∧ i + 1 ≤ k ∧ k ≤ s.b.length ∧ (q.1.length : Int) ≤ k ∧ qd false (s.b.drop (i.toNat + 1)) [] = qd false (s.b.drop k.toNat) q.1) (fun q => (s.b.length - q.2.reader.at_).toNat) ⟨i + 1, rfl, Int.le_refl _, by omega, by simp only [List.length_nil]; omega, by rw [e0]⟩ (by dsimp only; omega) fun L q hq hL => ?_)
  obtain ⟨o, g⟩ := q
  obtain ⟨k, rfl, k1, k2, k3, k4⟩ := hq
  simp only at k3 k4 hL ⊢
  rw [k4] at hL ⊢
  refine T.br (fun h2 => ?_) fun h2 => T.some ?_
  rotate_left
  · have h2 := of_decide_eq_false h2
    rw [List.drop_eq_nil_of_le (by omega)]; rfl
  have h2 := of_decide_eq_true h2
  have ek : (k + 1).toNat = k.toNat + 1 := by omega
  obtain ⟨y, ey⟩ := skip1 (b := s.b) (n := k.toNat) (by omega)
  have hy : hd (s.b.drop k.toNat) = y := by rw [ey]; rfl
  refine T.eq (peek0 s hl k (by omega) k2) ?_
  simp only [hy]
  refine T.jp (ι := GLex) (fun g => ∃ j : Int, g = GLex.mk (GLrd.mk s j) ∧ k ≤ j ∧ j < s.b.length ∧ qd false (s.b.drop k.toNat) o = qd false (s.b.drop (j.toNat + 1)) (o ++ [hd (s.b.drop j.toNat)])) (fun J h => ?_) fun g hg => ?_
  · refine T.br (fun h3 => T.ck (by omega) (T.eq (peek0 s hl (k + 1) (by omega) (by omega)) (T.br (fun h4 => ?_) fun h4 => ?_))) fun h3 => h _ ⟨k, rfl, Int.le_refl _, h2, ?_⟩
    · have hn : decide (hd (s.b.drop (k.toNat + 1)) = 34) = false := by rw [← ek]; simpa using h4
      refine T.eq (utf8_Valid_eq o (by omega)) (T.br (fun h5 => T.some ?_) fun h5 => T.some ?_)
      · have h5 : Lib.validD o = false := by simpa using h5
        rw [ey]
        simp only [qd, h3, cond_true, hn, cond_false, h5]
      · have h5 : Lib.validD o = true := by simpa using h5
        rw [ey]
        simp only [qd, h3, cond_true, hn, cond_false, h5, List.length_drop]
        rw [show (s.b.length : Int) - ((s.b.length - (k.toNat + 1) : Nat) : Int) = k + 1 by omega]
    · have hn : hd (s.b.drop (k.toNat + 1)) = 34 := by rw [← ek]; simpa using h4
      have hlt := hd_lt (b := s.b) (n := k.toNat + 1) (by rw [hn]; decide)
      obtain ⟨c, ec⟩ := skip1 hlt
      refine h _ ⟨k + 1, rfl, by omega, by omega, ?_⟩
      rw [ek, hn, ey]
      simp only [qd, h3, cond_true, decide_eq_true hn]
      rw [ec]; simp only [qd]
    · rw [hy, ey]
      simp only [qd, h3, cond_false]
  obtain ⟨j, rfl, j1, j2, j3⟩ := hg
  have ej : (j + 1).toNat = j.toNat + 1 := by omega
  refine T.eq (peek0 s hl j (by omega) (by omega)) ?_
  refine T.abl (by simp only [List.length_singleton]; omega) (T.ck (by dsimp only; omega) (hL _ ⟨j + 1, rfl, by omega, by omega, by dsimp only; rw [List.length_append, List.length_singleton]; omega, ?_⟩ (by dsimp only; omega)))
  rw [ej, j3]

/-! ### Signs -/
theorem sgs_pos : ∀ w ∈ sgs, 0 < w.length := by decide
theorem csign (s : Str) (i : Int) (h0 : 0 ≤ i) (h1 : i < s.b.length) (hl : s.b.length ≤ 1000000) :
    T (fun r => bif decide (0 < sg (s.b.drop i.toNat)) then r = ((6 : Int), Str.mk ((s.b.drop i.toNat).take (sg (s.b.drop i.toNat))), GLex.mk (GLrd.mk s (i + sg (s.b.drop i.toNat)))) else r.1 = 0) (lex_lexer_sign (GLex.mk (GLrd.mk s i))) := by
  unfold lex_lexer_sign
  have hdl : (s.b.drop i.toNat).length = s.b.length - i.toNat := List.length_drop
  generalize hdd : s.b.drop i.toNat = d at hdl ⊢
  refine T.lp (ι := Int × GLex) (fun q => q.2 = GLex.mk (GLrd.mk s i) ∧ 0 ≤ q.1 ∧ q.1 ≤ 13 ∧ sgF (sgs.drop q.1.toNat) d = sg d) (fun q => (13 - q.1).toNat) ⟨rfl, Int.le_refl _, by dsimp only; omega, rfl⟩ (by dsimp only; omega) fun L q hq hL => ?_
  obtain ⟨k, g⟩ := q
  obtain ⟨rfl, k1, k2, k3⟩ := hq
  simp only at k1 k2 k3 hL ⊢
  refine T.br (fun h2 => ?_) fun h2 => T.some ?_
  rotate_left
  · have h2 : ¬ k < 13 := of_decide_eq_false h2
    have : k = 13 := by omega
    subst this
    have e : sg d = 0 := by rw [← k3]; rfl
    rw [e]; rfl
  have h2 : k < 13 := of_decide_eq_true h2
  refine T.get k1 h2 fun y hy => ?_
  have hs := sgs_get hy
  have hpos : 0 < y.b.length := sgs_pos y.b (by
    have : y.b ∈ sgs.drop k.toNat := by rw [hs]; exact List.mem_cons_self ..
    exact List.mem_of_mem_drop this)
  rw [hs] at k3
  unfold sgF at k3
  refine T.eq (ahead_eq _ y h0 (by show i ≤ (s.b.length : Int); omega)) ?_
  simp only [hdd]
  have e : (k + 1).toNat = k.toNat + 1 := by omega
  refine T.br (fun h3 => ?_) fun h3 => T.ck (by omega) (hL _ ⟨rfl, by dsimp only; omega, by dsimp only; omega, ?_⟩ (by dsimp only; omega))
  · obtain ⟨p1, p2⟩ := (isPre_iff _ _).1 h3
    rw [h3, cond_true] at k3
    refine T.ck (by omega) (T.some ?_)
    rw [← k3, decide_eq_true hpos, cond_true, p2]
  · rw [h3, cond_false] at k3
    rw [e, k3]

/-! ### One -/
theorem oneS_kind {b t r : List UInt8} {k : Int} (h : oneS b = some (k, t, r)) : k ≠ 0 := by
  unfold oneS at h
  simp only at h
  cases h1 : isLetter (hd b) with
  | true =>
    rw [h1, cond_true] at h
    cases h2 : nmBad b with
    | true => rw [h2] at h; cases h
    | false =>
      rw [h2] at h
      simp only [cond_false, Option.some.injEq, Prod.mk.injEq] at h
      rw [← h.1]
      cases isWord (b.take (nm b)) <;> cases decide (hd b ≤ 90) <;> decide
  | false =>
    rw [h1, cond_false] at h
    cases h2 : isDigit (hd b) || (decide (hd b = 45) && isDigit (hd (b.drop 1))) with
    | true =>
      rw [h2, cond_true] at h
      cases h3 : numLen b with
      | none => rw [h3] at h; cases h
      | some n =>
        rw [h3] at h
        simp only [Option.some.injEq, Prod.mk.injEq] at h
        rw [← h.1]; decide
    | false =>
      rw [h2, cond_false] at h
      by_cases h3 : hd b = 39
      · rw [decide_eq_true h3, cond_true] at h
        cases h4 : hexBad (b.drop 1) with
        | true => rw [h4] at h; cases h
        | false =>
          rw [h4] at h
          simp only [cond_false, Option.some.injEq, Prod.mk.injEq] at h
          rw [← h.1]; decide
      · rw [decide_eq_false h3, cond_false] at h
        by_cases h4 : hd b = 34
        · rw [decide_eq_true h4, cond_true] at h
          cases h5 : qd false (b.drop 1) [] with
          | none => rw [h5] at h; cases h
          | some q =>
            rw [h5] at h
            simp only [Option.some.injEq, Prod.mk.injEq] at h
            rw [← h.1]; decide
        · rw [decide_eq_false h4, cond_false] at h
          by_cases h5 : 0 < sg b
          · rw [decide_eq_true h5, cond_true] at h
            simp only [Option.some.injEq, Prod.mk.injEq] at h
            rw [← h.1]; decide
          · rw [decide_eq_false h5] at h; cases h
theorem ctoken (s : Str) (i : Int) (h0 : 0 ≤ i) (h1 : i < s.b.length) (hl : s.b.length ≤ 1000000) :
    T (fun r => match oneS (s.b.drop i.toNat) with
      | none => r.1 = 0
      | some (k, t, rest) => r = (k, Str.mk t, GLex.mk (GLrd.mk s ((s.b.length : Int) - (rest.length : Int))))) (lex_lexer_token (GLex.mk (GLrd.mk s i))) := by
  unfold lex_lexer_token
  have ed1 : (s.b.drop i.toNat).drop 1 = s.b.drop (i.toNat + 1) := by rw [List.drop_drop]
  have elen : (s.b.drop i.toNat).length = s.b.length - i.toNat := List.length_drop
  have erest : ∀ (n : Nat), n ≤ (s.b.drop i.toNat).length → i + (n : Int) = (s.b.length : Int) - (((s.b.drop i.toNat).drop n).length : Int) := fun n hn => by
    rw [List.length_drop, elen]; rw [elen] at hn; omega
  refine T.eq (peek0 s hl i h0 (by omega)) (T.eq (clet _) ?_)
  unfold oneS
  simp only
  refine T.br (fun hle => ?_) fun hle => T.eq (cdig _) ?_
  · rw [hle, cond_true]
    refine T.cal (cname (GLex.mk (GLrd.mk s i)) h0 h1 hl hle) fun r _ hr => T.some ?_
    simp only at hr
    cases hb : nmBad (s.b.drop i.toNat) with
    | true => rw [hb, cond_true] at hr; exact hr
    | false =>
      rw [hb, cond_false] at hr
      simp only [cond_false]
      rw [hr, ← erest _ (nm_le _)]
  · rw [hle, cond_false]
    refine T.jp (ι := Bool × GLex) (fun p => p = (isDigit (hd (s.b.drop i.toNat)) || (decide (hd (s.b.drop i.toNat) = 45) && isDigit (hd ((s.b.drop i.toNat).drop 1))), GLex.mk (GLrd.mk s i))) (fun J2 h2 => T.br (fun h3 => h2 _ (by rw [h3]; rfl)) fun h3 => ?_) fun p hp => ?_
    · refine T.jp (ι := Bool × GLex) (fun p => p = (decide (hd (s.b.drop i.toNat) = 45) && isDigit (hd ((s.b.drop i.toNat).drop 1)), GLex.mk (GLrd.mk s i))) (fun J3 h4 => T.br (fun h5 => T.eq (peek1 s hl i h0 (by omega)) (T.eq (cdig _) (h4 _ (by rw [h5, ed1]; rfl)))) fun h5 => h4 _ (by rw [h5]; rfl)) fun p hp => h2 _ (by rw [h3, hp]; rfl)
    subst hp
    simp only
    refine T.br (fun h3 => ?_) fun h3 => ?_
    · rw [h3, cond_true]
      have hp : isDigit (hd (s.b.drop i.toNat)) = true ∨ (hd (s.b.drop i.toNat) = 45 ∧ isDigit (hd (s.b.drop (i.toNat + 1))) = true) := by
        rw [ed1] at h3
        rcases Bool.or_eq_true_iff.1 h3 with h | h
        · exact .inl h
        · exact .inr ⟨of_decide_eq_true (Bool.and_eq_true_iff.1 h).1, (Bool.and_eq_true_iff.1 h).2⟩
      refine T.cal (cnumber s i h0 h1 hl hp) fun r _ hr => T.some ?_
      cases hn : numLen (s.b.drop i.toNat) with
      | none => rw [hn] at hr; exact hr
      | some n =>
        rw [hn] at hr
        simp only at hr ⊢
        rw [hr, ← erest n (numLen_bd hn).2]
    · rw [h3, cond_false]
      refine T.br (fun h4 => ?_) fun h4 => ?_
      · rw [h4, cond_true, ed1]
        refine T.cal (chex s i h0 h1 hl) fun r _ hr => T.some ?_
        cases hb : hexBad (s.b.drop (i.toNat + 1)) with
        | true => rw [hb, cond_true] at hr; exact hr
        | false =>
          rw [hb, cond_false] at hr
          simp only [cond_false]
          have h5 : hx (s.b.drop (i.toNat + 1)) + 1 < (s.b.drop (i.toNat + 1)).length := by
            unfold hexBad at hb
            have := (Bool.or_eq_false_iff.1 hb).2
            have h72 : hd ((s.b.drop (i.toNat + 1)).drop (hx (s.b.drop (i.toNat + 1)) + 1)) = 72 := by simpa using this
            exact hd_lt (by rw [h72]; decide)
          rw [List.length_drop] at h5
          rw [hr, List.length_drop, List.length_drop]
          have e : i + 1 + (hx (s.b.drop (i.toNat + 1)) : Int) + 2 = (s.b.length : Int) - ((s.b.length - (i.toNat + 1) - (hx (s.b.drop (i.toNat + 1)) + 2) : Nat) : Int) := by omega
          rw [e]
      · rw [h4, cond_false]
        refine T.br (fun h5 => ?_) fun h5 => ?_
        · rw [h5, cond_true, ed1]
          refine T.cal (ctext s i h0 h1 hl) fun r _ hr => T.some ?_
          cases hq : qd false (s.b.drop (i.toNat + 1)) [] with
          | none => rw [hq] at hr; exact hr
          | some q =>
            obtain ⟨t, rest⟩ := q
            rw [hq] at hr
            simp only at hr ⊢
            rw [hr]
        · rw [h5, cond_false]
          refine T.cal (csign s i h0 h1 hl) fun r _ hr => T.some ?_
          cases hb : decide (0 < sg (s.b.drop i.toNat)) with
          | false => rw [hb, cond_false] at hr; exact hr
          | true =>
            rw [hb, cond_true] at hr
            simp only [cond_true]
            rw [hr, ← erest (sg (s.b.drop i.toNat)) (sg_le sgs _)]

/-! ### All -/
theorem ctokens (s : Str) : lex_Tokens s = some (toks s.b) := by
  refine tx ?_
  unfold lex_Tokens toks
  refine T.br (fun h => T.some ?_) fun h => ?_
  · have h := of_decide_eq_true h
    rw [decide_eq_true (show 8000 < s.b.length by omega)]; rfl
  have hl := of_decide_eq_false h
  rw [decide_eq_false (show ¬ 8000 < s.b.length by omega), cond_false]
  have hskip : ∀ k : Int, 0 ≤ k → k ≤ s.b.length → T (fun r => r = GLex.mk (GLrd.mk s ((s.b.length : Int) - ((wh .out (s.b.drop k.toNat)).length : Int)))) (lex_reader_skip (GLex.mk (GLrd.mk s k))) := fun k k0 k1 => by
    refine (skip_eq (GLex.mk (GLrd.mk s k)) k0 k1 (by show s.b.length ≤ _; omega)).mono fun r hr => ?_
    obtain ⟨⟨s', j⟩⟩ := r
    obtain ⟨r1, r2⟩ := hr
    simp only at r1 r2
    rw [r1, r2]
  refine T.cal (hskip 0 (by omega) (by omega)) fun y2 _ hy2 => ?_
  subst hy2
  refine T.lp (ι := List GTok × GLex) (fun q => ∃ (k : Int) (f : Nat) (b : List UInt8), q.2 = GLex.mk (GLrd.mk s k) ∧ (q.1.length : Int) ≤ k ∧ k = (s.b.length : Int) - ((wh .out b).length : Int) ∧ wh .out b = s.b.drop k.toNat ∧ 0 ≤ k ∧ b.length < f ∧ toksF s.b.length (s.b.length + 1) s.b [] = toksF s.b.length f b q.1) (fun q => (s.b.length - q.2.reader.at_).toNat)
    ⟨_, s.b.length + 1, s.b, rfl, ?_, rfl, ?_, ?_, by omega, rfl⟩ (by have := wh_len s.b .out; simp only [Int.toNat_zero, List.drop_zero]; omega) fun L q hq hL => ?_
  · have := wh_len s.b .out
    simp only [List.length_nil, Int.toNat_zero, List.drop_zero]; omega
  · obtain ⟨n, hn⟩ := wh_suf s.b .out
    have := suf_drop hn
    have hwl := wh_len s.b .out
    simp only [Int.toNat_zero, List.drop_zero]
    rw [show ((s.b.length : Int) - ((wh .out s.b).length : Int)).toNat = s.b.length - (wh .out s.b).length by omega, this]
  · have := wh_len s.b .out
    simp only [Int.toNat_zero, List.drop_zero]; omega
  obtain ⟨l, g⟩ := q
  obtain ⟨k, f, b, rfl, h3, hk, hsw, k0, h4, h5⟩ := hq
  simp only at h3 h5 hL ⊢
  rw [h5] at hL ⊢
  cases f with
  | zero => omega
  | succ f =>
    rw [toksF_succ] at hL ⊢
    cases hwh : wh .out b with
    | nil =>
      rw [hwh] at hk
      simp only [hwh] at hL ⊢
      have hk : k = (s.b.length : Int) := by simpa using hk
      refine T.br (fun h6 => by have := of_decide_eq_true h6; omega) fun _ => T.abl (by simp only [List.length_cons, List.length_nil]; omega) (T.some rfl)
    | cons c r =>
      rw [hwh] at hk hsw
      simp only [hwh] at hL ⊢ 
      have hcl : 0 < (c :: r).length := by simp
      have hwl := wh_len b .out
      rw [hwh] at hwl
      refine T.br (fun _ => ?_) fun h6 => by have := of_decide_eq_false h6; omega
      refine T.cal (ctoken s k k0 (by omega) (by omega)) fun q _ hq => ?_
      rw [← hsw] at hq
      cases ho : oneS (c :: r) with
      | none =>
        rw [ho] at hq
        simp only [ho] at hL ⊢
        simp only at hq
        rw [hq]
        exact T.br (fun _ => T.some (by rw [hk])) fun h7 => by have := of_decide_eq_false h7; omega
      | some p =>
        obtain ⟨kd, t, r'⟩ := p
        rw [ho] at hq
        simp only [ho] at hL ⊢
        simp only at hq
        subst hq
        have hol := oneS_len ho
        obtain ⟨no, hso⟩ := oneS_suf ho
        have hso2 : r' = s.b.drop (k.toNat + no) := by rw [hso, ← List.drop_drop, ← hsw]
        have hsd := suf_drop hso2
        have hrl : r'.length ≤ s.b.length := by rw [hso2, List.length_drop]; omega
        refine T.br (fun h7 => absurd (of_decide_eq_true h7) (oneS_kind ho)) fun _ => T.abl (by simp only [List.length_cons, List.length_nil]; omega) (T.cal (hskip _ (by omega) (by omega)) fun y _ hy => ?_)
        subst hy
        have e1 : ((s.b.length : Int) - (r'.length : Int)).toNat = s.b.length - r'.length := by omega
        rw [e1, hsd]
        have hw2 := wh_len r' .out
        obtain ⟨n2, hn2⟩ := wh_suf r' .out
        rw [hso2, List.drop_drop, ← hso2] at hn2
        have hs2 := suf_drop hn2
        refine hL _ ⟨_, f, r', rfl, ?_, rfl, ?_, by omega, by omega, ?_⟩ (by dsimp only; omega)
        · dsimp only; rw [List.length_append, List.length_singleton]; omega
        · rw [show ((s.b.length : Int) - ((wh .out r').length : Int)).toNat = s.b.length - (wh .out r').length by omega, hs2]
        · dsimp only; rw [hk]
end Go.Proofs.YtbinnmophpfmlaaDoor


namespace Go.Proofs.YtbinnmophpfmlaaDoor
open Go.Sy
set_option maxRecDepth 4000
def law04_awake  : Option (Bool) :=
  cal (lex_Tokens (Str.mk [65, 32, 58, 58, 61, 32, 73, 78, 84, 69, 71, 69, 82])) fun y1 => jp (ι := Bool) (fun J3 => br (decide (y1.2.2 = (0 : Int))) (J3 ((decide ((y1.1.length : Int) = (4 : Int))))) (J3 (false))) (fun q2 => jp (ι := Bool) (fun J6 => br q2 (cal (getI y1.1 (1 : Int)) fun y8 => J6 ((decide (y8.text = (Str.mk [58, 58, 61]))))) (J6 (false))) (fun q5 => jp (ι := Bool) (fun J10 => br q5 (cal (getI y1.1 (3 : Int)) fun y12 => J10 ((decide (y12.at_ = (13 : Int))))) (J10 (false))) (fun q9 => jp (ι := Bool) (fun J14 => br q9 (cal (lex_Word (Str.mk [83, 69, 84])) fun y16 => J14 (y16)) (J14 (false))) (fun q13 => some (q13)))))
end Go.Proofs.YtbinnmophpfmlaaDoor


namespace Go.Proofs.YtbinnmophpfmlaaDoor
open Go.Sy
set_option maxRecDepth 4000
def h_Plain_api_Token_c1 (a_x : GTok) (a_y : GTok) : Option (Bool) :=
  some ((decide (a_x = a_y)))

def h_Same_api_Token (a_a : (List GTok)) (a_b : (List GTok)) : Option (Bool) :=
  br (!decide ((a_a.length : Int) = (a_b.length : Int))) (some (false)) (lp (ι := Int) (fun L2 q1 => br (decide (q1 < (a_a.length : Int))) (cal (getI a_a q1) fun y7 => cal (getI a_b q1) fun y8 => cal (h_Plain_api_Token_c1 y7 y8) fun y9 => br (!y9) (some (false)) (ck ((q1 + (1 : Int))) <| L2 ((q1 + (1 : Int))))) (some (true))) (((0 : Int))))

def h_Plain_api_Token (a_a : (List GTok)) (a_b : (List GTok)) : Option (Bool) :=
  cal (h_Same_api_Token a_a a_b) fun y1 => some (y1)
end Go.Proofs.YtbinnmophpfmlaaDoor


namespace Go.Proofs.YtbinnmophpfmlaaDoor
open Go.Sy
set_option maxRecDepth 4000
end Go.Proofs.YtbinnmophpfmlaaDoor


namespace Go.Proofs.YtbinnmophpfmlaaDoor
open Go.Sy
set_option linter.unusedVariables false

theorem awake04 : law04_awake = some true := by
  unfold law04_awake
  simp only [ctokens, cword]
  kernel_rfl
theorem same_self (l : List GTok) (h : l.length ≤ 1000000) : h_Plain_api_Token l l = some true := by
  refine tx ?_
  unfold h_Plain_api_Token
  refine T.cal (Q := fun r => r = true) ?_ fun y _ hy => T.some hy
  unfold h_Same_api_Token
  refine T.br (fun h2 => by simp at h2) fun _ => ?_
  refine T.lp (fun (k : Int) => 0 ≤ k) (fun k => (l.length - k).toNat) (Int.le_refl _) (by omega) fun L k k0 hL => ?_
  refine T.br (fun h2 => ?_) fun _ => T.some rfl
  have h2 := of_decide_eq_true h2
  refine T.get k0 h2 fun y hy => T.get k0 h2 fun z hz => ?_
  rw [hy] at hz; cases hz
  refine T.eq (y := true) (by unfold h_Plain_api_Token_c1; rw [decide_eq_true rfl]) (T.br (fun h3 => by cases h3) fun _ => T.ck (by omega) (hL _ (by omega) (by omega)))
end Go.Proofs.YtbinnmophpfmlaaDoor


namespace Go.Proofs.YtbinnmophpfmlaaDoor
open Go.Sy
set_option linter.unusedVariables false

inductive KT : List UInt8 → List (Int × List UInt8) → Prop
  | fin {b : List UInt8} : wh .out b = [] → KT b []
  | tok {b r r' t : List UInt8} {c : UInt8} {k : Int} {ks : List (Int × List UInt8)} : wh .out b = c :: r → oneS (c :: r) = some (k, t, r') → KT r' ks → KT b ((k, t) :: ks)
/-! ### White -/
theorem KT.sp {b : List UInt8} {ks : List (Int × List UInt8)} (h : KT b ks) : KT (32 :: b) ks := by
  cases h with
  | fin h => exact .fin h
  | tok h1 h2 h3 => exact .tok h1 h2 h3
theorem wh_non {c : UInt8} {r : List UInt8} (h1 : isWh c = false) (h2 : c ≠ 45 ∨ hd r ≠ 45) : wh .out (c :: r) = c :: r := by
  have e : (decide (c = 45) && decide (hd r = 45)) = false := by
    rcases h2 with h | h
    · rw [decide_eq_false h]; rfl
    · rw [decide_eq_false h, Bool.and_false]
  show (bif isWh c then wh .out r else bif decide (c = 45) && decide (hd r = 45) then wh .start r else c :: r) = _
  rw [h1, e]; rfl
theorem hd_app {w x : List UInt8} : hd (w ++ x) = hd (w ++ [hd x]) := by
  cases w with
  | nil => rfl
  | cons c w => rfl

/-! ### Names -/
def nmAll : List UInt8 → UInt8 → Bool
  | [], _ => true
  | c :: w, d => inName c (w ++ [d]) && nmAll w d
def stopN : List UInt8 → Bool
  | [] => true
  | d :: r => !inName d r
theorem inName_hd {c : UInt8} {r s : List UInt8} (h : hd r = hd s) : inName c r = inName c s := by unfold inName; rw [h]
theorem nm_app {x : List UInt8} (hs : stopN x = true) : ∀ {w : List UInt8}, nmAll w (hd x) = true → nm (w ++ x) = w.length
  | [], _ => by
    cases x with
    | nil => rfl
    | cons d r =>
      have : inName d r = false := by
        have hs2 : (!inName d r) = true := hs
        cases h : inName d r with
        | true => rw [h] at hs2; cases hs2
        | false => rfl
      show (bif inName d r then nm r + 1 else 0) = 0
      rw [this]; rfl
  | c :: w, h => by
    unfold nmAll at h
    rw [Bool.and_eq_true] at h
    show (bif inName c (w ++ x) then nm (w ++ x) + 1 else 0) = w.length + 1
    rw [inName_hd hd_app, h.1, nm_app hs h.2]; rfl
def kindN (w : List UInt8) : Int := bif isWord w then 5 else bif decide (hd w ≤ 90) then 1 else 2
theorem hd_appl {w x : List UInt8} (h : w ≠ []) : hd (w ++ x) = hd w := by
  cases w with
  | nil => exact absurd rfl h
  | cons c w => rfl
theorem ne_of_letter {w : List UInt8} (h : isLetter (hd w) = true) : w ≠ [] := fun e => by subst e; cases h
theorem one_name {w x : List UInt8} (h0 : isLetter (hd w) = true) (h1 : nmAll w (hd x) = true) (h2 : stopN x = true) (h3 : w.getLast? ≠ some 45) (h4 : w.length ≤ 60) : oneS (w ++ x) = some (kindN w, w, x) := by
  have hn := nm_app h2 h1
  have hb : nmBad (w ++ x) = false := by
    unfold nmBad
    rw [hn, List.take_left, decide_eq_false h3, decide_eq_false (by omega)]; rfl
  unfold oneS
  simp only
  rw [hd_appl (ne_of_letter h0), h0, hb, hn, List.take_left, List.drop_left]
  rfl
theorem letter_wh {c : UInt8} (h : isLetter c = true) : isWh c = false ∧ c ≠ 45 := by
  unfold isLetter at h
  unfold isWh
  simp only [Bool.or_eq_true, Bool.and_eq_true, decide_eq_true_eq, UInt8.le_iff_toNat_le] at h
  have e : ∀ n : UInt8, n.toNat ≤ 45 → c ≠ n := fun n hn e => by
    subst e
    have e1 : (97 : UInt8).toNat = 97 := rfl
    have e2 : (65 : UInt8).toNat = 65 := rfl
    omega
  rw [decide_eq_false (e 32 (by decide)), decide_eq_false (e 9 (by decide)), decide_eq_false (e 10 (by decide)), decide_eq_false (e 13 (by decide))]
  exact ⟨rfl, e 45 (by decide)⟩
theorem KT.name {w x : List UInt8} {ks : List (Int × List UInt8)} (h0 : isLetter (hd w) = true) (h1 : nmAll w (hd x) = true) (h2 : stopN x = true) (h3 : w.getLast? ≠ some 45) (h4 : w.length ≤ 60) (h : KT x ks) : KT (w ++ x) ((kindN w, w) :: ks) := by
  cases hw : w with
  | nil => rw [hw] at h0; cases h0
  | cons c r =>
    have hc : isLetter c = true := by rw [hw] at h0; exact h0
    obtain ⟨e1, e2⟩ := letter_wh hc
    have := one_name h0 h1 h2 h3 h4
    rw [hw] at this
    exact .tok (wh_non e1 (.inl e2)) this h

/-! ### Numbers -/
def digs2 (d : List UInt8) : Bool := d.all isDigit
theorem dg_app {x : List UInt8} (hs : isDigit (hd x) = false) : ∀ {d : List UInt8}, digs2 d = true → dg (d ++ x) = d.length
  | [], _ => by
    cases x with
    | nil => rfl
    | cons c r =>
      show (bif isDigit c then dg r + 1 else 0) = 0
      have : isDigit c = false := hs
      rw [this]; rfl
  | c :: d, h => by
    unfold digs2 at h
    rw [List.all_cons, Bool.and_eq_true] at h
    show (bif isDigit c then dg (d ++ x) + 1 else 0) = d.length + 1
    rw [h.1, dg_app hs h.2]; rfl
def numOk (m : Bool) (d : List UInt8) : Bool := digs2 d && decide (1 ≤ d.length) && decide (d.length ≤ 19) && (decide (d.length ≤ 1) || !decide (hd d = 48)) && (!m || !decide (hd d = 48)) && decide ((uval d).toNat ≤ (if m then 9223372036854775808 else 9223372036854775807))
theorem numBad_app {m : Bool} {d x : List UInt8} (h : numOk m d = true) (h1 : isDigit (hd x) = false) (h2 : isLetter (hd x) = false) : numBad m (d ++ x) = false := by
  unfold numOk at h
  simp only [Bool.and_eq_true, decide_eq_true_eq] at h
  obtain ⟨⟨⟨⟨⟨h3, h4⟩, h5⟩, h6⟩, h7⟩, h8⟩ := h
  have hne : d ≠ [] := fun e => by subst e; simp at h4
  have hn := dg_app h1 h3
  unfold numBad
  rw [hn, hd_appl hne, List.drop_left, List.take_left, h2, decide_eq_false (show ¬ d.length < 1 by omega), decide_eq_false (show ¬ 19 < d.length by omega)]
  have e1 : (decide (1 < d.length) && decide (hd d = 48)) = false := by
    rw [Bool.or_eq_true] at h6
    rcases h6 with h | h
    · rw [decide_eq_false (by have := of_decide_eq_true h; omega)]; rfl
    · have : decide (hd d = 48) = false := by simpa using h
      rw [this, Bool.and_false]
  have e2 : (m && decide (hd d = 48)) = false := by
    rw [Bool.or_eq_true] at h7
    rcases h7 with h | h
    · have : m = false := by simpa using h
      rw [this]; rfl
    · have : decide (hd d = 48) = false := by simpa using h
      rw [this, Bool.and_false]
  have e3 : decide ((9223372036854775808 : UInt64) < uval d) = false := by
    refine decide_eq_false fun h => ?_
    have h := UInt64.lt_iff_toNat_lt.1 h
    have e : (9223372036854775808 : UInt64).toNat = 9223372036854775808 := rfl
    cases m with
    | true => rw [if_pos rfl] at h8; omega
    | false => rw [if_neg (by decide)] at h8; omega
  have e4 : (!m && decide (uval d = 9223372036854775808)) = false := by
    cases m with
    | true => rfl
    | false =>
      rw [if_neg (by decide)] at h8
      have : ¬ uval d = 9223372036854775808 := fun e => by
        rw [e] at h8
        have e : (9223372036854775808 : UInt64).toNat = 9223372036854775808 := rfl
        omega
      rw [decide_eq_false this]; rfl
  rw [e1, e2, e3, e4]; rfl
theorem digit_not {c : UInt8} (h : isDigit c = true) : isLetter c = false ∧ isWh c = false ∧ c ≠ 45 := by
  unfold isDigit at h
  simp only [Bool.and_eq_true, decide_eq_true_eq, UInt8.le_iff_toNat_le] at h
  have a1 : (48 : UInt8).toNat = 48 := rfl
  have a2 : (57 : UInt8).toNat = 57 := rfl
  have e : ∀ n : UInt8, n.toNat ≤ 45 → c ≠ n := fun n hn e => by subst e; omega
  refine ⟨?_, ?_, e 45 (by decide)⟩
  · unfold isLetter
    have b1 : (97 : UInt8).toNat = 97 := rfl
    have b2 : (65 : UInt8).toNat = 65 := rfl
    rw [decide_eq_false (show ¬ (97 : UInt8) ≤ c from fun h => by have := UInt8.le_iff_toNat_le.1 h; omega), decide_eq_false (show ¬ (65 : UInt8) ≤ c from fun h => by have := UInt8.le_iff_toNat_le.1 h; omega)]; rfl
  · unfold isWh
    rw [decide_eq_false (e 32 (by decide)), decide_eq_false (e 9 (by decide)), decide_eq_false (e 10 (by decide)), decide_eq_false (e 13 (by decide))]; rfl
theorem numOk_ne {m : Bool} {d : List UInt8} (h : numOk m d = true) : d ≠ [] := fun e => by subst e; cases m <;> cases h
theorem numOk_hd {m : Bool} {d : List UInt8} (h : numOk m d = true) : isDigit (hd d) = true := by
  cases d with
  | nil => exact absurd rfl (numOk_ne h)
  | cons c r =>
    unfold numOk digs2 at h
    simp only [Bool.and_eq_true, List.all_cons] at h
    exact h.1.1.1.1.1.1
theorem one_num {d x : List UInt8} (h : numOk false d = true) (h1 : isDigit (hd x) = false) (h2 : isLetter (hd x) = false) : oneS (d ++ x) = some (3, d, x) := by
  have hc := numOk_hd h
  obtain ⟨e1, e2, e3⟩ := digit_not hc
  have hn : numLen (d ++ x) = some d.length := by
    unfold numLen
    have hd2 : digs2 d = true := by
      unfold numOk at h
      simp only [Bool.and_eq_true] at h
      exact h.1.1.1.1.1
    rw [hd_appl (numOk_ne h), decide_eq_false e3, cond_false, numBad_app h h1 h2, cond_false, dg_app h1 hd2]
  unfold oneS
  simp only
  rw [hd_appl (numOk_ne h), e1, hc, Bool.true_or, cond_true, cond_false, hn]
  simp only [List.take_left, List.drop_left]
theorem one_neg {d x : List UInt8} (h : numOk true d = true) (h1 : isDigit (hd x) = false) (h2 : isLetter (hd x) = false) : oneS (45 :: (d ++ x)) = some (3, 45 :: d, x) := by
  have hc := numOk_hd h
  have hn : numLen (45 :: (d ++ x)) = some (d.length + 1) := by
    unfold numLen
    have hd2 : digs2 d = true := by
      unfold numOk at h
      simp only [Bool.and_eq_true] at h
      exact h.1.1.1.1.1
    show (bif numBad true (d ++ x) then none else some (dg (d ++ x) + 1)) = _
    rw [numBad_app h h1 h2, cond_false, dg_app h1 hd2]
  unfold oneS
  have e : isDigit (hd ((45 :: (d ++ x)).drop 1)) = true := by
    show isDigit (hd (d ++ x)) = true
    rw [hd_appl (numOk_ne h)]; exact hc
  simp only
  rw [show isLetter (hd (45 :: (d ++ x))) = false from rfl, show isDigit (hd (45 :: (d ++ x))) = false from rfl, show decide (hd (45 :: (d ++ x)) = 45) = true from rfl, e, hn]
  show some (3, (45 :: (d ++ x)).take (d.length + 1), (45 :: (d ++ x)).drop (d.length + 1)) = _
  rw [List.take_succ_cons, List.drop_succ_cons, List.take_left, List.drop_left]
theorem KT.num {d x : List UInt8} {ks : List (Int × List UInt8)} (h : numOk false d = true) (h1 : isDigit (hd x) = false) (h2 : isLetter (hd x) = false) (hk : KT x ks) : KT (d ++ x) ((3, d) :: ks) := by
  have := one_num h h1 h2
  have hc := numOk_hd h
  cases hw : d with
  | nil => exact absurd hw (numOk_ne h)
  | cons c r =>
    rw [hw] at this hc
    obtain ⟨_, e2, e3⟩ := digit_not hc
    exact .tok (wh_non e2 (.inl e3)) this hk
/-! ### Signs -/
/-- May that stand behind a sign? -/
def sgN (s : List UInt8) (d : UInt8) : Bool := !(decide (s = [91]) && decide (d = 91)) && !(decide (s = [93]) && decide (d = 93)) && !(decide (s = [46, 46]) && decide (d = 46)) && !(decide (s = [58]) && decide (d = 58))
theorem sg_app {s : List UInt8} (hs : s ∈ sgs) {x : List UInt8} (h : sgN s (hd x) = true) : sg (s ++ x) = s.length := by
  have n1 : ∀ (p c : UInt8) (r : List UInt8), hd r ≠ c → isPre [p, c] (p :: r) = false := fun p c r h => by
    cases r with
    | nil => show (bif decide (p = p) then false else false) = false; cases decide (p = p) <;> rfl
    | cons d r =>
      have : ¬ c = d := fun e => h e.symm
      show (bif decide (p = p) then (bif decide (c = d) then true else false) else false) = false
      rw [decide_eq_false this]; cases decide (p = p) <;> rfl
  have n2 : ∀ (p q c : UInt8) (r : List UInt8), hd r ≠ c → isPre [p, q, c] (p :: q :: r) = false := fun p q c r h => by
    cases r with
    | nil => show (bif decide (p = p) then (bif decide (q = q) then false else false) else false) = false; cases decide (p = p) <;> cases decide (q = q) <;> rfl
    | cons d r =>
      have : ¬ c = d := fun e => h e.symm
      show (bif decide (p = p) then (bif decide (q = q) then (bif decide (c = d) then true else false) else false) else false) = false
      rw [decide_eq_false this]; cases decide (p = p) <;> cases decide (q = q) <;> rfl
  have n3 : ∀ (p q c : UInt8) (r : List UInt8), hd r ≠ q → isPre [p, q, c] (p :: r) = false := fun p q c r h => by
    cases r with
    | nil => show (bif decide (p = p) then false else false) = false; cases decide (p = p) <;> rfl
    | cons d r =>
      have : ¬ q = d := fun e => h e.symm
      show (bif decide (p = p) then (bif decide (q = d) then isPre [c] r else false) else false) = false
      rw [decide_eq_false this]; cases decide (p = p) <;> rfl
  unfold sgN at h
  simp only [Bool.and_eq_true] at h
  obtain ⟨⟨⟨h1, h2⟩, h3⟩, h4⟩ := h
  have sp : ∀ {s' : List UInt8} {d : UInt8}, s = s' → (!(decide (s = s') && decide (hd x = d))) = true → hd x ≠ d := fun {s' d} e h hd => by
    rw [decide_eq_true e, decide_eq_true hd] at h; cases h
  simp only [sgs, List.mem_cons, List.not_mem_nil, or_false] at hs
  rcases hs with e | e | e | e | e | e | e | e | e | e | e | e | e
  · subst e; rfl
  · subst e; rfl
  · have := sp e h3
    subst e
    show (bif isPre [46, 46, 46] (46 :: 46 :: x) then 3 else 2) = 2
    rw [n2 _ _ _ _ this]; rfl
  · subst e; rfl
  · subst e; rfl
  · subst e; rfl
  · subst e; rfl
  · have := sp e h1
    subst e
    show (bif isPre [91, 91] (91 :: x) then 2 else 1) = 1
    rw [n1 _ _ _ this]; rfl
  · have := sp e h2
    subst e
    show (bif isPre [93, 93] (93 :: x) then 2 else 1) = 1
    rw [n1 _ _ _ this]; rfl
  · subst e; rfl
  · subst e; rfl
  · subst e; rfl
  · have := sp e h4
    subst e
    show (bif isPre [58, 58, 61] (58 :: x) then 3 else 1) = 1
    rw [n3 _ _ _ _ this]; rfl
theorem one_sign {s : List UInt8} (hs : s ∈ sgs) {x : List UInt8} (h : sgN s (hd x) = true) : oneS (s ++ x) = some (6, s, x) ∧ wh .out (s ++ x) = s ++ x := by
  have hg := sg_app hs h
  have hl : 0 < s.length := by
    simp only [sgs, List.mem_cons, List.not_mem_nil, or_false] at hs
    rcases hs with e | e | e | e | e | e | e | e | e | e | e | e | e <;> subst e <;> decide
  have key : (bif decide (0 < sg (s ++ x)) then some ((6 : Int), (s ++ x).take (sg (s ++ x)), (s ++ x).drop (sg (s ++ x))) else none) = some (6, s, x) := by
    rw [hg, decide_eq_true hl, cond_true, List.take_left, List.drop_left]
  simp only [sgs, List.mem_cons, List.not_mem_nil, or_false] at hs
  rcases hs with e | e | e | e | e | e | e | e | e | e | e | e | e <;> subst e <;> exact ⟨key, rfl⟩
theorem KT.sign {s : List UInt8} (hs : s ∈ sgs) {x : List UInt8} {ks : List (Int × List UInt8)} (h : sgN s (hd x) = true) (hk : KT x ks) : KT (s ++ x) ((6, s) :: ks) := by
  obtain ⟨h1, h2⟩ := one_sign hs h
  cases hw : s ++ x with
  | nil => rw [hw] at h1; cases h1
  | cons c r =>
    rw [hw] at h1 h2
    exact .tok h2 h1 hk

/-! ### Hexes and strings -/
theorem hx_app {x : List UInt8} (hs : isHex (hd x) = false) : ∀ {d : List UInt8}, d.all isHex = true → hx (d ++ x) = d.length
  | [], _ => by
    cases x with
    | nil => rfl
    | cons c r =>
      show (bif isHex c then hx r + 1 else 0) = 0
      have : isHex c = false := hs
      rw [this]; rfl
  | c :: d, h => by
    rw [List.all_cons, Bool.and_eq_true] at h
    show (bif isHex c then hx (d ++ x) + 1 else 0) = d.length + 1
    rw [h.1, hx_app hs h.2]; rfl
theorem one_hex {t x : List UInt8} (h : t.all isHex = true) (h2 : t.length % 2 = 0) : oneS (39 :: (t ++ 39 :: 72 :: x)) = some (4, t, x) := by
  have hn := hx_app (x := 39 :: 72 :: x) rfl h
  have hb : hexBad (t ++ 39 :: 72 :: x) = false := by
    unfold hexBad
    rw [hn, decide_eq_true h2, List.drop_left, ← List.drop_drop, List.drop_left]; rfl
  show (bif hexBad (t ++ 39 :: 72 :: x) then none else some ((4 : Int), (t ++ 39 :: 72 :: x).take (hx (t ++ 39 :: 72 :: x)), (t ++ 39 :: 72 :: x).drop (hx (t ++ 39 :: 72 :: x) + 2))) = _
  rw [hb, hn, ← List.drop_drop, List.take_left, List.drop_left]; rfl
def esc : List UInt8 → List UInt8
  | [] => []
  | c :: s => if c = 34 then 34 :: 34 :: esc s else c :: esc s
theorem qd_esc {x : List UInt8} (hx : hd x ≠ 34) : ∀ (s acc : List UInt8), qd false (esc s ++ 34 :: x) acc = bif Lib.validD (acc ++ s) then some (acc ++ s, x) else none
  | [], acc => by
    show (bif decide ((34 : UInt8) = 34) then bif decide (hd x = 34) then qd true x acc else bif Lib.validD acc then some (acc, x) else none else _) = _
    rw [decide_eq_false hx, List.append_nil]; rfl
  | c :: s, acc => by
    by_cases hc : c = 34
    · subst hc
      have := qd_esc hx s (acc ++ [34])
      rw [List.append_assoc] at this
      exact this
    · have := qd_esc hx s (acc ++ [c])
      rw [List.append_assoc] at this
      unfold esc
      rw [if_neg hc]
      show (bif decide (c = 34) then _ else qd false (esc s ++ 34 :: x) (acc ++ [c])) = _
      rw [decide_eq_false hc]
      exact this
theorem one_str {s x : List UInt8} (hx : hd x ≠ 34) (hv : Lib.validD s = true) : oneS (34 :: (esc s ++ 34 :: x)) = some (7, s, x) := by
  have := qd_esc hx s []
  rw [List.nil_append, hv, cond_true] at this
  show (match qd false (esc s ++ 34 :: x) [] with
    | none => none
    | some (t, r) => some ((7 : Int), t, r)) = _
  rw [this]
theorem KT.str {s x : List UInt8} {ks : List (Int × List UInt8)} (hx : hd x ≠ 34) (hv : Lib.validD s = true) (hk : KT x ks) : KT (34 :: (esc s ++ 34 :: x)) ((7, s) :: ks) :=
  .tok (wh_non rfl (.inl (by decide))) (one_str hx hv) hk
end Go.Proofs.YtbinnmophpfmlaaDoor


namespace Go.Proofs.YtbinnmophpfmlaaDoor
open Go.Sy
set_option linter.unusedVariables false

theorem T.and {β : Type} {R : β → Prop} {q x : Bool} {K : Bool → Option β} (hq : q = true) (hx : x = true) (hk : T R (K true)) : T R (jp (ι := Bool) (fun J => br q (J x) (J false)) K) := by
  subst hq; subst hx
  exact hk
end Go.Proofs.YtbinnmophpfmlaaDoor


namespace Go.Proofs.YtbinnmophpfmlaaDoor
open Go.Sy
set_option linter.unusedVariables false

def wd (x : List UInt8) : Prop := hd x = 32 ∨ hd x = 10 ∨ hd x = 9
theorem wd_stop {x : List UInt8} (h : wd x) : stopN x = true := by
  cases x with
  | nil => rfl
  | cons d r => rcases h with h | h | h <;> (have h : d = _ := h; subst h; rfl)
theorem wd_not {x : List UInt8} (h : wd x) : isDigit (hd x) = false ∧ isLetter (hd x) = false ∧ hd x ≠ 34 := by
  rcases h with h | h | h <;> rw [h] <;> exact ⟨rfl, rfl, by decide⟩
theorem wd_sg {x : List UInt8} (h : wd x) : ∀ s ∈ sgs, sgN s (hd x) = true := by
  rcases h with h | h | h <;> rw [h] <;> decide
def sgn (k : Int) (t : List UInt8) : List UInt8 := if k = 4 then 39 :: (t ++ [39, 72]) else if k = 7 then 34 :: (esc t ++ [34]) else t
theorem nm_take : ∀ (b : List UInt8) (d : UInt8), (b.take (nm b)).getLast? ≠ some 45 → nmAll (b.take (nm b)) d = true
  | [], d, _ => rfl
  | c :: r, d, h => by
    rw [nm_cons] at h ⊢
    cases hi : inName c r with
    | false => rfl
    | true =>
      rw [hi] at h
      simp only [cond_true, List.take_succ_cons] at h ⊢
      unfold nmAll
      have ih := nm_take r d
      cases hw : r.take (nm r) with
      | nil =>
        rw [hw] at h
        have hc : c ≠ 45 := fun e => h (by rw [e]; rfl)
        unfold inName at hi ⊢
        rw [decide_eq_false hc] at hi ⊢
        simp only [Bool.false_and, Bool.or_false] at hi ⊢
        rw [hi]; rfl
      | cons e w =>
        rw [hw] at h ih
        rw [ih (by simpa [List.getLast?_cons_cons] using h), inName_hd (c := c) (r := e :: w ++ [d]) (s := r) ?_, hi]
        · rfl
        · cases r with
          | nil => simp at hw
          | cons e' r' =>
            have hpos : 0 < nm (e' :: r') := by
              rcases Nat.eq_zero_or_pos (nm (e' :: r')) with h0 | h0
              · rw [h0] at hw; cases hw
              · exact h0
            obtain ⟨n, hn⟩ : ∃ n, nm (e' :: r') = n + 1 := ⟨nm (e' :: r') - 1, by omega⟩
            rw [hn, List.take_succ_cons] at hw
            injection hw with h1 h2
            show e = e'
            exact h1.symm
theorem hd_take {b : List UInt8} {n : Nat} (h : 0 < n) : hd (b.take n) = hd b := by
  cases b with
  | nil => simp
  | cons c r =>
    obtain ⟨n, rfl⟩ : ∃ k, n = k + 1 := ⟨n - 1, by omega⟩
    rfl
theorem numOk_of {m : Bool} {d : List UInt8} (h : numBad m d = false) : numOk m (d.take (dg d)) = true := by
  unfold numBad at h
  simp only [Bool.or_eq_false_iff] at h
  obtain ⟨⟨⟨⟨⟨⟨h1, h2⟩, h3⟩, h4⟩, h5⟩, h6⟩, h7⟩ := h
  have h1 := of_decide_eq_false h1
  have h2 := of_decide_eq_false h2
  have h6 := of_decide_eq_false h6
  have hl : (d.take (dg d)).length = dg d := by rw [List.length_take]; have := dg_le d; omega
  have hh : hd (d.take (dg d)) = hd d := hd_take (by omega)
  unfold numOk
  rw [hl, hh, decide_eq_true (show 1 ≤ dg d by omega), decide_eq_true (show dg d ≤ 19 by omega)]
  have e0 : digs2 (d.take (dg d)) = true := List.all_eq_true.2 (dg_digs d)
  have e1 : (decide (dg d ≤ 1) || !decide (hd d = 48)) = true := by
    by_cases h : dg d ≤ 1
    · rw [decide_eq_true h]; rfl
    · rw [decide_eq_true (show 1 < dg d by omega)] at h3
      have h3 : decide (hd d = 48) = false := h3
      rw [h3]; simp
  have e2 : (!m || !decide (hd d = 48)) = true := by
    cases m with
    | false => rfl
    | true =>
      have h4 : decide (hd d = 48) = false := h4
      rw [h4]; rfl
  have hu : (uval (d.take (dg d))).toNat ≤ 9223372036854775808 := by
    rcases Nat.lt_or_ge 9223372036854775808 (uval (d.take (dg d))).toNat with h | h
    · exact absurd (UInt64.lt_iff_toNat_lt.2 (show (9223372036854775808 : UInt64).toNat < _ from h)) h6
    · exact h
  have e3 : (uval (d.take (dg d))).toNat ≤ (if m then 9223372036854775808 else 9223372036854775807) := by
    cases m with
    | true => exact hu
    | false =>
      have h7 := of_decide_eq_false (show decide (uval (d.take (dg d)) = 9223372036854775808) = false from h7)
      have : (uval (d.take (dg d))).toNat ≠ 9223372036854775808 := fun e => h7 (UInt64.toNat_inj.1 e)
      simp only [Bool.false_eq_true, if_false]; omega
  rw [e0, e1, e2, decide_eq_true e3]; rfl
theorem hx_all : ∀ d : List UInt8, (d.take (hx d)).all isHex = true
  | [] => rfl
  | c :: r => by
    rw [hx_cons]
    cases h : isHex c with
    | false => rfl
    | true =>
      simp only [cond_true, List.take_succ_cons, List.all_cons, h, hx_all r]; rfl
theorem qd_valid : ∀ (b : List UInt8) (f : Bool) (acc t r : List UInt8), qd f b acc = some (t, r) → Lib.validD t = true
  | [], f, acc, t, r, h => by cases f <;> simp [qd] at h
  | c :: b, true, acc, t, r, h => by
    simp only [qd] at h
    exact qd_valid b _ _ _ _ h
  | c :: b, false, acc, t, r, h => by
    simp only [qd] at h
    by_cases h1 : c = 34
    · simp only [decide_eq_true h1, cond_true] at h
      by_cases h2 : hd b = 34
      · simp only [decide_eq_true h2, cond_true] at h
        exact qd_valid b _ _ _ _ h
      · simp only [decide_eq_false h2, cond_false] at h
        cases hv : Lib.validD acc with
        | true => rw [hv] at h; simp at h; rw [← h.1]; exact hv
        | false => rw [hv] at h; cases h
    · simp only [decide_eq_false h1, cond_false] at h
      exact qd_valid b _ _ _ _ h
theorem sgF_mem : ∀ (l : List (List UInt8)) (b : List UInt8), 0 < sgF l b → b.take (sgF l b) ∈ l
  | [], b, h => absurd h (Nat.lt_irrefl 0)
  | p :: ps, b, h => by
    unfold sgF at h ⊢
    cases hp : isPre p b with
    | true => rw [cond_true, ((isPre_iff _ _).1 hp).2]; exact List.mem_cons_self ..
    | false =>
      rw [hp] at h
      exact List.mem_cons_of_mem _ (sgF_mem ps b h)
theorem cons_wh {c : UInt8} {r : List UInt8} (h : isWh c = false) (h2 : c ≠ 45) : wh .out (c :: r) = c :: r := wh_non h (.inl h2)
theorem reL {b t r x : List UInt8} {k : Int} (h : oneS b = some (k, t, r)) (hxw : wd x) : oneS (sgn k t ++ x) = some (k, t, x) ∧ wh .out (sgn k t ++ x) = sgn k t ++ x ∧ sgn k t ≠ [] := by
  obtain ⟨x1, x2, x3⟩ := wd_not hxw
  unfold oneS at h
  simp only at h
  cases h1 : isLetter (hd b) with
  | true =>
    rw [h1, cond_true] at h
    cases h2 : nmBad b with
    | true => rw [h2] at h; cases h
    | false =>
      rw [h2] at h
      simp only [cond_false, Option.some.injEq, Prod.mk.injEq] at h
      obtain ⟨e1, e2, e3⟩ := h
      have hp := nm_pos h1
      unfold nmBad at h2
      obtain ⟨b1, b2⟩ := Bool.or_eq_false_iff.1 h2
      have b1 := of_decide_eq_false b1
      have b2 := of_decide_eq_false b2
      have hl : (b.take (nm b)).length ≤ 60 := by rw [List.length_take]; omega
      have ht : isLetter (hd (b.take (nm b))) = true := by rw [hd_take hp]; exact h1
      have key := one_name (w := b.take (nm b)) (x := x) ht (nm_take b _ b1) (wd_stop hxw) b1 hl
      have hk : kindN (b.take (nm b)) = k := by
        unfold kindN; rw [hd_take hp, ← e1]
      have hs : sgn k t = t := by
        have hk47 : k ≠ 4 ∧ k ≠ 7 := by
          rw [← e1]
          cases isWord (b.take (nm b)) <;> cases decide (hd b ≤ 90) <;> decide
        unfold sgn
        rw [if_neg hk47.1, if_neg hk47.2]
      rw [hs, ← e2]
      rw [hk] at key
      refine ⟨key, ?_, ne_of_letter ht⟩
      cases hw : b.take (nm b) with
      | nil => rw [hw] at ht; cases ht
      | cons c w =>
        rw [hw] at ht
        obtain ⟨z1, z2⟩ := letter_wh ht
        exact cons_wh z1 z2
  | false =>
    rw [h1, cond_false] at h
    cases h2 : isDigit (hd b) || (decide (hd b = 45) && isDigit (hd (b.drop 1))) with
    | true =>
      rw [h2, cond_true] at h
      cases h3 : numLen b with
      | none => rw [h3] at h; cases h
      | some n =>
        rw [h3] at h
        simp only [Option.some.injEq, Prod.mk.injEq] at h
        obtain ⟨e1, e2, e3⟩ := h
        have hs : sgn k t = t := by
          rw [← e1]; rfl
        rw [hs, ← e1, ← e2]
        unfold numLen at h3
        by_cases h45 : hd b = 45
        · rw [decide_eq_true h45, cond_true] at h3
          cases hb : numBad true (b.drop 1) with
          | true => rw [hb] at h3; cases h3
          | false =>
            rw [hb] at h3
            simp only [cond_false, Option.some.injEq] at h3
            have ok := numOk_of hb
            cases b with
            | nil => cases h45
            | cons c r =>
              have hc : c = 45 := h45
              subst hc
              rw [← h3]
              have key := one_neg (x := x) ok x1 x2
              refine ⟨key, wh_non rfl (.inr ?_), by simp⟩
              show hd (r.take (dg r) ++ x) ≠ 45
              have ok2 : numOk true (r.take (dg r)) = true := ok
              rw [hd_appl (numOk_ne ok2)]
              exact (digit_not (numOk_hd ok2)).2.2
        · rw [decide_eq_false h45, cond_false] at h3
          cases hb : numBad false b with
          | true => rw [hb] at h3; cases h3
          | false =>
            rw [hb] at h3
            simp only [cond_false, Option.some.injEq] at h3
            rw [← h3]
            have ok := numOk_of hb
            have hc := numOk_hd ok
            have hne := numOk_ne ok
            refine ⟨one_num ok x1 x2, ?_, hne⟩
            cases hw : b.take (dg b) with
            | nil => exact absurd hw hne
            | cons c w =>
              rw [hw] at hc
              obtain ⟨_, z1, z2⟩ := digit_not hc
              exact cons_wh z1 z2
    | false =>
      rw [h2, cond_false] at h
      by_cases h3 : hd b = 39
      · rw [decide_eq_true h3, cond_true] at h
        cases h4 : hexBad (b.drop 1) with
        | true => rw [h4] at h; cases h
        | false =>
          rw [h4] at h
          simp only [cond_false, Option.some.injEq, Prod.mk.injEq] at h
          obtain ⟨e1, e2, e3⟩ := h
          unfold hexBad at h4
          obtain ⟨h5, _⟩ := Bool.or_eq_false_iff.1 h4
          obtain ⟨h5, _⟩ := Bool.or_eq_false_iff.1 h5
          have h5 : hx (b.drop 1) % 2 = 0 := by simpa using h5
          have hl : ((b.drop 1).take (hx (b.drop 1))).length = hx (b.drop 1) := by rw [List.length_take]; have := hx_le (b.drop 1); omega
          have key := one_hex (t := (b.drop 1).take (hx (b.drop 1))) (x := x) (hx_all _) (by rw [hl]; exact h5)
          have hs : sgn k t ++ x = 39 :: (t ++ 39 :: 72 :: x) := by
            rw [← e1]; show 39 :: (t ++ [39, 72]) ++ x = _; simp
          rw [hs, ← e1, ← e2]
          refine ⟨key, cons_wh rfl (by decide), ?_⟩
          show (39 :: _ : List UInt8) ≠ []
          simp
      · rw [decide_eq_false h3, cond_false] at h
        by_cases h4 : hd b = 34
        · rw [decide_eq_true h4, cond_true] at h
          cases h5 : qd false (b.drop 1) [] with
          | none => rw [h5] at h; cases h
          | some q =>
            obtain ⟨t', r'⟩ := q
            rw [h5] at h
            simp only [Option.some.injEq, Prod.mk.injEq] at h
            obtain ⟨e1, e2, e3⟩ := h
            have hv := qd_valid _ _ _ _ _ h5
            have key := one_str (x := x) x3 hv
            have hs : sgn k t ++ x = 34 :: (esc t ++ 34 :: x) := by
              rw [← e1]; show 34 :: (esc t ++ [34]) ++ x = _; simp
            rw [hs, ← e1, ← e2]
            refine ⟨key, cons_wh rfl (by decide), ?_⟩
            show (34 :: _ : List UInt8) ≠ []
            simp
        · rw [decide_eq_false h4, cond_false] at h
          by_cases h5 : 0 < sg b
          · rw [decide_eq_true h5, cond_true] at h
            simp only [Option.some.injEq, Prod.mk.injEq] at h
            obtain ⟨e1, e2, e3⟩ := h
            have hm : b.take (sg b) ∈ sgs := sgF_mem sgs b h5
            have hs : sgn k t = t := by rw [← e1]; rfl
            obtain ⟨key, kw⟩ := one_sign hm (wd_sg hxw _ hm)
            rw [hs, ← e1, ← e2]
            exact ⟨key, kw, fun e => by have := sgs_pos _ hm; rw [e] at this; cases this⟩
          · rw [decide_eq_false h5] at h; cases h
end Go.Proofs.YtbinnmophpfmlaaDoor


namespace Go.Proofs.YtbinnmophpfmlaaDoor
open Go.Sy
set_option maxRecDepth 4000
def law04_sign (a_text : Str) (a_from_ : Int) (a_end_ : Int) (a_t : GTok) : Option (Str) :=
  br (decide (a_t.kind = (4 : Int))) (asr (Nat.ble ((Str.mk [39]).b.length + a_t.text.b.length) 4611686018427387904) <| asr (Nat.ble ((Str.mk ((Str.mk [39]).b ++ a_t.text.b)).b.length + (Str.mk [39, 72]).b.length) 4611686018427387904) <| some ((Str.mk ((Str.mk ((Str.mk [39]).b ++ a_t.text.b)).b ++ (Str.mk [39, 72]).b)))) (br (decide (a_t.kind = (7 : Int))) (lp (ι := Str × Int) (fun L4 q3 => br (decide (q3.2 < (a_t.text.b.length : Int))) (jp (ι := Str) (fun J15 => ck ((q3.2 + (1 : Int))) <| asr (decide (0 ≤ q3.2 ∧ q3.2 ≤ (q3.2 + (1 : Int)) ∧ (q3.2 + (1 : Int)) ≤ (a_t.text.b.length : Int))) <| asr (Nat.ble (q3.1.b.length + (Str.mk ((a_t.text.b.take ((q3.2 + (1 : Int))).toNat).drop (q3.2).toNat)).b.length) 4611686018427387904) <| cal (getI a_t.text.b q3.2) fun y19 => br (decide (y19 = (34 : UInt8))) (asr (Nat.ble ((Str.mk (q3.1.b ++ (Str.mk ((a_t.text.b.take ((q3.2 + (1 : Int))).toNat).drop (q3.2).toNat)).b)).b.length + (Str.mk [34]).b.length) 4611686018427387904) <| J15 ((Str.mk ((Str.mk (q3.1.b ++ (Str.mk ((a_t.text.b.take ((q3.2 + (1 : Int))).toNat).drop (q3.2).toNat)).b)).b ++ (Str.mk [34]).b)))) (J15 ((Str.mk (q3.1.b ++ (Str.mk ((a_t.text.b.take ((q3.2 + (1 : Int))).toNat).drop (q3.2).toNat)).b))))) (fun q14 => ck ((q3.2 + (1 : Int))) <| L4 (q14, (q3.2 + (1 : Int))))) (asr (Nat.ble (q3.1.b.length + (Str.mk [34]).b.length) 4611686018427387904) <| some ((Str.mk (q3.1.b ++ (Str.mk [34]).b))))) (((Str.mk [34]), (0 : Int)))) (some (a_t.text)))

def law04_LexWhite (a_text : Str) (a_gaps : (List Int)) : Option (Bool) :=
  cal (r04_Tokens a_text) fun y1 => jp (ι := Bool) (fun J3 => br (decide ((600 : Int) < (a_text.b.length : Int))) (J3 (true)) (J3 ((!decide (y1.2.2 = (0 : Int)))))) (fun q2 => jp (ι := Bool) (fun J6 => br q2 (J6 (true)) (J6 ((decide ((100 : Int) < (y1.1.length : Int)))))) (fun q5 => br q5 (cal (law04_awake ) fun y8 => some (y8)) (lp (ι := Str × (List GTok) × Int) (fun L11 q10 => br (decide (q10.2.2 < (y1.1.length : Int))) (jp (ι := Str × (List GTok)) (fun J53 => jp (ι := Int) (fun J55 => br (decide (q10.2.2 < (a_gaps.length : Int))) (cal (getI a_gaps q10.2.2) fun y56 => asr (!decide ((UInt64.ofNat ((([(Str.mk [32]), (Str.mk [10]), (Str.mk [9, 13]), (Str.mk [32, 45, 45, 32, 114, 101, 109, 97, 114, 107, 10]), (Str.mk [32, 45, 45, 32, 97, 32, 45, 45, 32]), (Str.mk [32, 32])] : (List Str)).length : Int) % 18446744073709551616).toNat) = 0)) <| ck ((((UInt64.ofNat (y56 % 18446744073709551616).toNat) % (UInt64.ofNat ((([(Str.mk [32]), (Str.mk [10]), (Str.mk [9, 13]), (Str.mk [32, 45, 45, 32, 114, 101, 109, 97, 114, 107, 10]), (Str.mk [32, 45, 45, 32, 97, 32, 45, 45, 32]), (Str.mk [32, 32])] : (List Str)).length : Int) % 18446744073709551616).toNat)).toNat : Int)) <| J55 ((((UInt64.ofNat (y56 % 18446744073709551616).toNat) % (UInt64.ofNat ((([(Str.mk [32]), (Str.mk [10]), (Str.mk [9, 13]), (Str.mk [32, 45, 45, 32, 114, 101, 109, 97, 114, 107, 10]), (Str.mk [32, 45, 45, 32, 97, 32, 45, 45, 32]), (Str.mk [32, 32])] : (List Str)).length : Int) % 18446744073709551616).toNat)).toNat : Int))) (J55 ((0 : Int)))) (fun q54 => ck ((q10.2.2 + (1 : Int))) <| jp (ι := Int) (fun J61 => br (decide ((q10.2.2 + (1 : Int)) < (y1.1.length : Int))) (ck ((q10.2.2 + (1 : Int))) <| cal (getI y1.1 (q10.2.2 + (1 : Int))) fun y63 => J61 (y63.at_)) (J61 ((a_text.b.length : Int)))) (fun q60 => cal (getI ([(Str.mk [32]), (Str.mk [10]), (Str.mk [9, 13]), (Str.mk [32, 45, 45, 32, 114, 101, 109, 97, 114, 107, 10]), (Str.mk [32, 45, 45, 32, 97, 32, 45, 45, 32]), (Str.mk [32, 32])] : (List Str)) q54) fun y64 => asr (Nat.ble (q10.1.b.length + y64.b.length) 4611686018427387904) <| cal (getI y1.1 q10.2.2) fun y66 => asr (Nat.ble (q10.2.1.length + ([{ y66 with at_ := ((Str.mk (q10.1.b ++ y64.b)).b.length : Int) }] : (List GTok)).length) 68719476736) <| br (!decide (y66.kind = (0 : Int))) (cal (getI y1.1 q10.2.2) fun y73 => cal (law04_sign a_text y73.at_ q60 ({ y66 with at_ := ((Str.mk (q10.1.b ++ y64.b)).b.length : Int) })) fun y74 => asr (Nat.ble ((Str.mk (q10.1.b ++ y64.b)).b.length + y74.b.length) 4611686018427387904) <| J53 ((Str.mk ((Str.mk (q10.1.b ++ y64.b)).b ++ y74.b)), (q10.2.1 ++ ([{ y66 with at_ := ((Str.mk (q10.1.b ++ y64.b)).b.length : Int) }] : (List GTok))))) (J53 ((Str.mk (q10.1.b ++ y64.b)), (q10.2.1 ++ ([{ y66 with at_ := ((Str.mk (q10.1.b ++ y64.b)).b.length : Int) }] : (List GTok)))))))) (fun q52 => ck ((q10.2.2 + (1 : Int))) <| L11 (q52.1, q52.2, (q10.2.2 + (1 : Int))))) (cal (lex_Tokens q10.1) fun y77 => cal (law04_awake ) fun y78 => jp (ι := Bool) (fun J80 => br y78 (jp (ι := Bool) (fun J83 => br (decide ((8000 : Int) < (q10.1.b.length : Int))) (J83 (true)) (jp (ι := Bool) (fun J86 => br (decide (y77.2.2 = (0 : Int))) (J86 ((decide (y77.2.1 = (0 : Int))))) (J86 (false))) (fun q85 => jp (ι := Bool) (fun J89 => br q85 (cal (h_Plain_api_Token y77.1 q10.2.1) fun y91 => J89 (y91)) (J89 (false))) (fun q88 => J83 (q88))))) (fun q82 => J80 (q82))) (J80 (false))) (fun q79 => some (q79)))) (((Str.mk []), ([] : (List GTok)), (0 : Int))))))
end Go.Proofs.YtbinnmophpfmlaaDoor


namespace Go.Proofs.YtbinnmophpfmlaaDoor
open Go.Sy
set_option linter.unusedVariables false

inductive Src : List GTok → Prop
  | fin {a : Int} : Src [⟨0, ⟨[]⟩, a⟩]
  | cons {t : GTok} {l : List GTok} {b r : List UInt8} : oneS b = some (t.kind, t.text.b, r) → Src l → Src (t :: l)
theorem toksF_src (n : Nat) : ∀ (f : Nat) (b : List UInt8) (acc : List GTok), b.length < f → (∃ l, toksF n f b acc = (acc ++ l, 0, 0) ∧ Src l) ∨ (toksF n f b acc).2.2 ≠ 0
  | 0, b, acc, h => by omega
  | f + 1, b, acc, h => by
    rw [toksF_succ]
    have hwl := wh_len b .out
    cases hwh : wh .out b with
    | nil => exact .inl ⟨_, rfl, .fin⟩
    | cons c r =>
      rw [hwh] at hwl
      simp only
      cases ho : oneS (c :: r) with
      | none => exact .inr (by simp)
      | some q =>
        obtain ⟨k, t, r'⟩ := q
        simp only
        have hol := oneS_len ho
        rcases toksF_src n f r' (acc ++ [⟨k, ⟨t⟩, (n : Int) - ((c :: r).length : Int)⟩]) (by omega) with ⟨l, e, g⟩ | e
        · exact .inl ⟨_ :: l, by rw [e, List.append_assoc]; rfl, .cons (b := c :: r) ho g⟩
        · exact .inr e
theorem toks_src (b : List UInt8) (h : (toks b).2.2 = 0) : Src (toks b).1 := by
  unfold toks at h ⊢
  by_cases hl : 8000 < b.length
  · rw [decide_eq_true hl] at h; simp at h
  · rw [decide_eq_false hl, cond_false] at h ⊢
    rcases toksF_src b.length (b.length + 1) b [] (by omega) with ⟨l, e, g⟩ | e
    · rw [e]; exact g
    · exact absurd h e
inductive WT (n : Nat) : List UInt8 → List GTok → Prop
  | fin {b : List UInt8} : wh .out b = [] → WT n b [⟨0, ⟨[]⟩, (n : Int)⟩]
  | tok {b r r' t : List UInt8} {c : UInt8} {k : Int} {l : List GTok} : wh .out b = c :: r → oneS (c :: r) = some (k, t, r') → WT n r' l → WT n b (⟨k, ⟨t⟩, (n : Int) - ((c :: r).length : Int)⟩ :: l)
theorem WT.tok' {n : Nat} {b z r' t : List UInt8} {k : Int} {l : List GTok} (h : wh .out b = z) (hz : z ≠ []) (ho : oneS z = some (k, t, r')) (hl : WT n r' l) : WT n b (⟨k, ⟨t⟩, (n : Int) - (z.length : Int)⟩ :: l) := by
  cases z with
  | nil => exact absurd rfl hz
  | cons c r => exact .tok h ho hl
theorem toksF_WT {n : Nat} {b : List UInt8} {l : List GTok} (h : WT n b l) : ∀ f acc, b.length < f → toksF n f b acc = (acc ++ l, 0, 0) := by
  induction h with
  | @fin b h =>
    intro f acc hf
    obtain ⟨f, rfl⟩ : ∃ g, f = g + 1 := ⟨f - 1, by omega⟩
    rw [toksF_succ, h]
  | @tok b r r' t c k l h1 h2 _ ih =>
    intro f acc hf
    obtain ⟨f, rfl⟩ : ∃ g, f = g + 1 := ⟨f - 1, by omega⟩
    have h3 := oneS_len h2
    have h4 := wh_len b .out
    rw [h1] at h4
    rw [toksF_succ, h1]
    simp only [h2]
    rw [ih f _ (by omega), List.append_assoc]; rfl
theorem toks_WT {b : List UInt8} {l : List GTok} (h : WT b.length b l) (hl : b.length ≤ 8000) : toks b = (l, 0, 0) := by
  unfold toks
  rw [decide_eq_false (show ¬ 8000 < b.length by omega), cond_false, toksF_WT h (b.length + 1) [] (by omega)]
  rfl
def sgB (t : GTok) : List UInt8 := if t.kind = 0 then [] else sgn t.kind t.text.b
def bld (g : Nat → List UInt8) : Nat → Nat → List GTok → List UInt8 × List GTok
  | _, _, [] => ([], [])
  | i, p, t :: l => (g i ++ (sgB t ++ (bld g (i + 1) (p + (g i).length + (sgB t).length) l).1), ⟨t.kind, t.text, ((p + (g i).length : Nat) : Int)⟩ :: (bld g (i + 1) (p + (g i).length + (sgB t).length) l).2)
structure GapOk (g : List UInt8) : Prop where
  ne : g ≠ []
  hd0 : wd g
  skip : ∀ x, wh .out (g ++ x) = wh .out x
theorem bld_WT {g : Nat → List UInt8} (hg : ∀ i, GapOk (g i)) {l : List GTok} (h : Src l) : ∀ i p n, n = p + (bld g i p l).1.length → WT n (bld g i p l).1 (bld g i p l).2 := by
  induction h with
  | @fin a =>
    intro i p n hn
    have e1 : (bld g i p [⟨0, ⟨[]⟩, a⟩]).1 = g i := by show g i ++ ([] ++ []) = g i; simp
    have e2 : (bld g i p [⟨0, ⟨[]⟩, a⟩]).2 = [⟨0, ⟨[]⟩, ((p + (g i).length : Nat) : Int)⟩] := rfl
    rw [e1] at hn
    rw [e1, e2, ← hn]
    refine .fin ?_
    have := (hg i).skip []
    rw [List.append_nil] at this
    exact this
  | @cons t l b r ho hs ih =>
    intro i p n hn
    have hk := oneS_kind ho
    have hsb : sgB t = sgn t.kind t.text.b := if_neg hk
    have e1 : (bld g i p (t :: l)).1 = g i ++ (sgB t ++ (bld g (i + 1) (p + (g i).length + (sgB t).length) l).1) := rfl
    have e2 : (bld g i p (t :: l)).2 = ⟨t.kind, t.text, ((p + (g i).length : Nat) : Int)⟩ :: (bld g (i + 1) (p + (g i).length + (sgB t).length) l).2 := rfl
    rw [e1] at hn
    rw [e1, e2]
    have ih' := ih (i + 1) (p + (g i).length + (sgB t).length) n (by simp only [List.length_append] at hn; omega)
    generalize hx : (bld g (i + 1) (p + (g i).length + (sgB t).length) l).1 = x at *
    have hwd : wd x := by
      cases hs with
      | fin => rw [← hx]; show wd (g (i + 1) ++ _); unfold wd; rw [hd_appl (hg (i + 1)).ne]; exact (hg (i + 1)).hd0
      | cons => rw [← hx]; show wd (g (i + 1) ++ _); unfold wd; rw [hd_appl (hg (i + 1)).ne]; exact (hg (i + 1)).hd0
    obtain ⟨r1, r2, r3⟩ := reL ho hwd
    rw [← hsb] at r1 r2 r3
    have hwh : wh .out (g i ++ (sgB t ++ x)) = sgB t ++ x := by rw [(hg i).skip, r2]
    have hln : (n : Int) - ((sgB t ++ x).length : Int) = ((p + (g i).length : Nat) : Int) := by
      simp only [List.length_append] at hn ⊢; omega
    rw [← hln]
    exact WT.tok' hwh (fun e => r3 (List.append_eq_nil_iff.1 e).1) r1 ih'
theorem sign_T (a : Str) (f e : Int) (t : GTok) (hl : t.text.b.length ≤ 8000) : T (fun r => r.b = sgn t.kind t.text.b) (law04_sign a f e t) := by
  unfold law04_sign sgn
  refine T.br (fun h => T.abl (by simp only [List.length_singleton]; omega) (T.abl (by simp only [List.length_append, List.length_cons, List.length_nil]; omega) (T.some ?_))) fun h => ?_
  · rw [if_pos (of_decide_eq_true h)]; rfl
  rw [if_neg (of_decide_eq_false h)]
  refine T.br (fun h => ?_) fun h => T.some (by rw [if_neg (of_decide_eq_false h)])
  rw [if_pos (of_decide_eq_true h)]
  refine T.lp (ι := Str × Int) (fun q => 0 ≤ q.2 ∧ q.2 ≤ t.text.b.length ∧ q.1.b = 34 :: esc (t.text.b.take q.2.toNat)) (fun q => (t.text.b.length - q.2).toNat) ⟨Int.le_refl _, by dsimp only; omega, rfl⟩ (by dsimp only; omega) fun L q hq hL => ?_
  obtain ⟨s, k⟩ := q
  obtain ⟨k0, k1, hs⟩ := hq
  simp only at k0 k1 hs hL ⊢
  have hsl : s.b.length ≤ 1 + 2 * t.text.b.length := by
    have : ∀ a : List UInt8, (esc a).length ≤ 2 * a.length := fun a => by
      induction a with
      | nil => exact Nat.le_refl _
      | cons c a ih =>
        unfold esc
        split <;> simp only [List.length_cons] <;> omega
    have := this (t.text.b.take k.toNat)
    rw [hs, List.length_cons]
    rw [List.length_take] at this
    omega
  have escA : ∀ a b : List UInt8, esc (a ++ b) = esc a ++ esc b := fun a b => by
    induction a with
    | nil => rfl
    | cons c a ih =>
      rw [List.cons_append]
      show (if c = 34 then 34 :: 34 :: esc (a ++ b) else c :: esc (a ++ b)) = (if c = 34 then 34 :: 34 :: esc a else c :: esc a) ++ esc b
      rw [ih]
      by_cases h : c = 34
      · rw [if_pos h, if_pos h]; rfl
      · rw [if_neg h, if_neg h]; rfl
  refine T.br (fun h2 => ?_) fun h2 => ?_
  · have h2 := of_decide_eq_true h2
    obtain ⟨y, hy⟩ : ∃ y, t.text.b[k.toNat]? = some y := ⟨_, List.getElem?_eq_getElem (by omega)⟩
    have ek : (k + 1).toNat = k.toNat + 1 := by omega
    have ey : (t.text.b.take (k + 1).toNat).drop k.toNat = [y] := by
      rw [seg, ek, dropc hy, show k.toNat + 1 - k.toNat = 1 by omega]; rfl
    have et : esc (t.text.b.take (k + 1).toNat) = esc (t.text.b.take k.toNat) ++ esc [y] := by rw [ek, take_snoc hy, escA]
    refine T.jp (fun (u : Str) => u.b = 34 :: esc (t.text.b.take (k + 1).toNat)) (fun J h => T.ck (by omega) (T.asd ⟨k0, by omega, by omega⟩ ?_)) fun u ht => T.ck (by omega) (hL _ ⟨by dsimp only; omega, by dsimp only; omega, ht⟩ (by dsimp only; omega))
    rw [ey]
    refine T.abl (by simp only [List.length_singleton]; omega) (T.get k0 h2 fun z hz => ?_)
    rw [hy] at hz; cases hz
    refine T.br (fun h3 => T.abl (by simp only [List.length_append, List.length_singleton]; omega) (h _ ?_)) fun h3 => h _ ?_
    · have h3 := of_decide_eq_true h3
      subst h3
      show s.b ++ [34] ++ [34] = _
      rw [et, hs]
      simp [esc]
    · have h3 := of_decide_eq_false h3
      show s.b ++ [y] = _
      rw [et, hs]
      simp [esc, h3]
  have h2 := of_decide_eq_false h2
  refine T.abl (by simp only [List.length_singleton]; omega) (T.some ?_)
  show s.b ++ [34] = _
  rw [hs, List.take_of_length_le (by omega)]; rfl
def gapsL : List Str := [(Str.mk [32]), (Str.mk [10]), (Str.mk [9, 13]), (Str.mk [32, 45, 45, 32, 114, 101, 109, 97, 114, 107, 10]), (Str.mk [32, 45, 45, 32, 97, 32, 45, 45, 32]), (Str.mk [32, 32])]
def gIdx (y : Int) : Nat := ((UInt64.ofNat (y % 18446744073709551616).toNat) % (UInt64.ofNat (((gapsL).length : Int) % 18446744073709551616).toNat)).toNat
theorem gIdx_lt (y : Int) : gIdx y < 6 := by
  unfold gIdx
  rw [UInt64.toNat_mod]
  exact Nat.mod_lt _ (by decide)
def gAt (gs : List Int) (i : Nat) : Nat := match gs[i]? with
  | some y => gIdx y
  | none => 0
theorem gAt_lt (gs : List Int) (i : Nat) : gAt gs i < 6 := by
  unfold gAt
  split
  · exact gIdx_lt _
  · omega
def gap (gs : List Int) (i : Nat) : List UInt8 := ((gapsL[gAt gs i]?).getD ⟨[]⟩).b
theorem gap_mem {j : Nat} (h : j < 6) : ∃ z, gapsL[j]? = some z ∧ GapOk z.b ∧ z.b.length ≤ 11 := by
  match j, h with
  | 0, _ => exact ⟨_, rfl, ⟨by simp, .inl rfl, fun x => rfl⟩, by decide⟩
  | 1, _ => exact ⟨_, rfl, ⟨by simp, .inr (.inl rfl), fun x => rfl⟩, by decide⟩
  | 2, _ => exact ⟨_, rfl, ⟨by simp, .inr (.inr rfl), fun x => rfl⟩, by decide⟩
  | 3, _ => exact ⟨_, rfl, ⟨by simp, .inl rfl, fun x => rfl⟩, by decide⟩
  | 4, _ => exact ⟨_, rfl, ⟨by simp, .inl rfl, fun x => rfl⟩, by decide⟩
  | 5, _ => exact ⟨_, rfl, ⟨by simp, .inl rfl, fun x => rfl⟩, by decide⟩
  | n + 6, h => omega
theorem gap_ok (gs : List Int) (i : Nat) : GapOk (gap gs i) ∧ (gap gs i).length ≤ 11 := by
  obtain ⟨z, h1, h2, h3⟩ := gap_mem (gAt_lt gs i)
  unfold gap
  rw [h1]
  exact ⟨h2, h3⟩
theorem sgB_len (t : GTok) (h : t.text.b.length ≤ 8000) : (sgB t).length ≤ 17000 := by
  unfold sgB sgn
  have : ∀ a : List UInt8, (esc a).length ≤ 2 * a.length := fun a => by
    induction a with
    | nil => exact Nat.le_refl _
    | cons c a ih =>
      unfold esc
      split <;> simp only [List.length_cons] <;> omega
  have := this t.text.b
  split
  · simp
  · split
    · simp only [List.length_cons, List.length_append, List.length_nil]; omega
    · split
      · simp only [List.length_cons, List.length_append, List.length_nil]; omega
      · omega
theorem white_true (a0 : Str) (a1 : List Int) : law04_LexWhite a0 a1 = some true := by
  refine tx ?_
  unfold law04_LexWhite
  have htot := tokens_tot a0
  refine T.eq (tokens_eq a0) ?_
  have hok := htot.get? (tokens_eq a0)
  have hsrc := toks_src a0.b
  generalize toks a0.b = y1 at hok hsrc ⊢
  refine T.jp (fun q => q = false → y1.2.2 = 0) (fun J h => T.br (fun _ => h _ fun h => by cases h) fun _ => h _ fun h2 => by simpa using h2) fun q hq => ?_
  refine T.jp (fun q => q = false → y1.2.2 = 0 ∧ y1.1.length ≤ 100) (fun J h => T.br (fun _ => h _ fun h => by cases h) fun h1 => h _ fun h2 => ⟨hq h1, by have := of_decide_eq_false h2; omega⟩) fun q2 hq2 => ?_
  refine T.br (fun _ => T.eq awake04 (T.some rfl)) fun h2 => ?_
  obtain ⟨he, hcnt⟩ := hq2 h2
  have hS := hsrc he
  have hO := hok he
  generalize hl : y1.1 = l at *
  refine T.lp (ι := Str × List GTok × Int) (fun q => 0 ≤ q.2.2 ∧ q.2.2 ≤ l.length ∧ (q.1.b.length : Int) ≤ 20000 * q.2.2 ∧ (q.2.1.length : Int) ≤ q.2.2 ∧
      q.1.b ++ (bld (gap a1) q.2.2.toNat q.1.b.length (l.drop q.2.2.toNat)).1 = (bld (gap a1) 0 0 l).1 ∧ q.2.1 ++ (bld (gap a1) q.2.2.toNat q.1.b.length (l.drop q.2.2.toNat)).2 = (bld (gap a1) 0 0 l).2) (fun q => (l.length - q.2.2).toNat)
    ⟨Int.le_refl _, by dsimp only; omega, Int.le_refl _, Int.le_refl _, rfl, rfl⟩ (by dsimp only; omega) fun L q hq hL => ?_
  obtain ⟨s, lst, k⟩ := q
  obtain ⟨k0, k1, s1, s2, e1, e2⟩ := hq
  simp only at k0 k1 s1 s2 e1 e2 hL ⊢
  refine T.br (fun h3 => ?_) fun h3 => ?_
  · have h3 := of_decide_eq_true h3
    obtain ⟨t, ht⟩ : ∃ t, l[k.toNat]? = some t := ⟨_, List.getElem?_eq_getElem (by omega)⟩
    have htl : t.text.b.length ≤ 8000 := (hO.ok t (List.mem_of_getElem? ht)).len
    have hdrop : l.drop k.toNat = t :: l.drop (k.toNat + 1) := by
      obtain ⟨h1, h2⟩ := List.getElem?_eq_some_iff.1 ht
      rw [List.drop_eq_getElem_cons h1, h2]
    obtain ⟨hgo, hgl⟩ := gap_ok a1 k.toNat
    have hsl := sgB_len t htl
    have ek : (k + 1).toNat = k.toNat + 1 := by omega
    refine T.jp (ι := Str × List GTok) (fun p => p.1.b = s.b ++ (gap a1 k.toNat ++ sgB t) ∧ p.2 = lst ++ [⟨t.kind, t.text, ((s.b.length + (gap a1 k.toNat).length : Nat) : Int)⟩]) (fun J h => ?_) fun p hp => ?_
    · refine T.jp (fun (j : Int) => j = (gAt a1 k.toNat : Int)) (fun J2 h2 => T.br (fun h4 => ?_) fun h4 => h2 _ ?_) fun j hj => ?_
      · have h4 := of_decide_eq_true h4
        refine T.get k0 h4 fun y hy => T.asr rfl (T.ck ?_ (h2 _ ?_))
        · have := gIdx_lt y
          unfold gIdx at this
          exact ⟨by omega, by
            have e : ∀ n : Nat, n < 6 → (n : Int) ≤ 9223372036854775807 := fun n h => by omega
            exact e _ this⟩
        · unfold gAt; rw [hy]; rfl
      · have h4 := of_decide_eq_false h4
        unfold gAt
        rw [List.getElem?_eq_none (by omega)]; rfl
      refine T.ck (by omega) (T.jp (fun (_ : Int) => True) (fun J2 h2 => T.br (fun h4 => T.ck (by omega) (T.get (by omega) (of_decide_eq_true h4) fun y _ => h2 _ trivial)) fun _ => h2 _ trivial) fun q60 _ => ?_)
      have hlt := gAt_lt a1 k.toNat
      subst hj
      refine T.get (by omega) (by simp only [List.length_cons, List.length_nil]; omega) fun y64 hy64 => ?_
      have hg64 : y64.b = gap a1 k.toNat := by
        have : gapsL[gAt a1 k.toNat]? = some y64 := hy64
        unfold gap
        rw [this]; rfl
      refine T.abl (by rw [hg64]; omega) (T.get k0 h3 fun y66 hy66 => ?_)
      rw [ht] at hy66; cases hy66
      have hat : ((Str.mk (s.b ++ y64.b)).b.length : Int) = ((s.b.length + (gap a1 k.toNat).length : Nat) : Int) := by
        show ((s.b ++ y64.b).length : Int) = _
        rw [List.length_append, hg64]
      refine T.abl (by simp only [List.length_singleton]; omega) (T.br (fun h4 => T.get k0 h3 fun y73 _ => T.cal (sign_T a0 _ _ _ htl) fun y74 _ hy74 => ?_) fun h4 => h _ ⟨?_, ?_⟩)
      · have hk : t.kind ≠ 0 := by simpa using h4
        have hsb : y74.b = sgB t := by rw [hy74]; exact (if_neg hk).symm
        refine T.abl (by rw [List.length_append, hg64, hsb]; omega) (h _ ⟨?_, ?_⟩)
        · show s.b ++ y64.b ++ y74.b = _
          rw [hg64, hsb, List.append_assoc]
        · rw [hat]
      · have hk : t.kind = 0 := by simpa using h4
        have hsb : sgB t = [] := if_pos hk
        show s.b ++ y64.b = _
        rw [hg64, hsb, List.append_nil]
      · rw [hat]
    · obtain ⟨p1, p2⟩ := p
      obtain ⟨hp1, hp2⟩ := hp
      simp only at hp1 hp2 ⊢
      have hlen : p1.b.length = s.b.length + (gap a1 k.toNat).length + (sgB t).length := by rw [hp1]; simp only [List.length_append]; omega
      rw [hdrop] at e1 e2
      refine T.ck (by omega) (hL _ ⟨by dsimp only; omega, by dsimp only; omega, by dsimp only; omega, by dsimp only; rw [hp2, List.length_append, List.length_singleton]; omega, ?_, ?_⟩ (by dsimp only; omega))
      · dsimp only
        rw [ek, hlen, hp1, ← e1]
        show _ = s.b ++ (gap a1 k.toNat ++ (sgB t ++ _))
        simp only [List.append_assoc]
      · dsimp only
        rw [ek, hlen, hp2, ← e2, List.append_assoc]
        rfl
  · have h3 := of_decide_eq_false h3
    rw [List.drop_eq_nil_of_le (by omega)] at e1 e2
    have e1 : s.b = (bld (gap a1) 0 0 l).1 := by rw [← e1]; show _ = s.b ++ []; simp
    have e2 : lst = (bld (gap a1) 0 0 l).2 := by rw [← e2]; show _ = lst ++ []; simp
    have hW := bld_WT (fun i => (gap_ok a1 i).1) hS 0 0 s.b.length (by rw [← e1]; omega)
    rw [← e1, ← e2] at hW
    refine T.eq (ctokens s) (T.eq awake04 (T.jp (fun q => q = true) (fun J h => T.br (fun _ => ?_) fun h => by cases h) fun q hq => T.some hq))
    refine T.jp (fun q => q = true) (fun J2 h2 => T.br (fun _ => h2 _ rfl) fun h4 => ?_) fun q hq => h _ hq
    have h4 := of_decide_eq_false h4
    rw [toks_WT hW (by omega)]
    refine T.jp (fun q => q = true) (fun J3 h5 => T.br (fun _ => h5 _ rfl) fun h => by cases h) fun q hq => ?_
    subst hq
    refine T.jp (fun q => q = true) (fun J3 h5 => T.br (fun _ => T.eq (same_self lst (by omega)) (h5 _ rfl)) fun h => by cases h) fun q hq => h2 _ hq
end Go.Proofs.YtbinnmophpfmlaaDoor

