/- Equations of functions, printed by program. Conditions: none. -/
import Derived.Test.YtifjdkimbamdkaaDoorEv
namespace Go.Proofs
open Go.Am
set_option maxRecDepth 100000
set_option linter.unusedVariables false
/-! airline/airlineref01.Decimal -/
theorem r01_Decimal_eq (lb : Bool) (n : Nat) (a1 : Int) :
  top lb n F_r01_Decimal [.int .i64 a1] =
 bif (decide (a1 < 0)) then
 (optO (C lb n F_r01_digits [.int .u64 (IntKind.wrap .u64 ((IntKind.wrap .u64 (IntKind.wrap .i64 (0 - (IntKind.wrap .i64 (a1 + 1))))) + 1))]) fun r2 =>
 optO (CV.asS r2) fun s3 =>
 chkO (decide (([45] : List UInt8).length + s3.length ≤ 9223372036854775807)) (
 some (.str (([45] : List UInt8) ++ s3))))
 else
 (optO (C lb n F_r01_digits [.int .u64 (IntKind.wrap .u64 (a1))]) fun r4 =>
 some (r4)) := by kernel_rfl

/-! airline/text.Carrier -/
theorem text_Carrier_eq (lb : Bool) (n : Nat) (a1 : List UInt8) :
  top lb n F_text_Carrier [.str a1] =
 optO (C lb n F_text_Code [.str a1, .int .i64 2, .int .i64 2]) fun r2 =>
 optO (CV.asB r2) fun b3 =>
 bif b3 then
 (optO (C lb n F_text_every [.str a1, .fn F_text_digit]) fun r4 =>
 optO (CV.asB r4) fun b5 =>
 some (.bool (!b5)))
 else
 (some (.bool false)) := by kernel_rfl

/-! airline/text.Decimal -/
theorem text_Decimal_eq (lb : Bool) (n : Nat) (a1 : Int) :
  top lb n F_text_Decimal [.int .i64 a1] =
 optO (C lb n F_strconv_Itoa [.int .i64 a1]) fun r2 =>
 some (r2) := by kernel_rfl

/-! airline/airlineref01.Code -/
noncomputable def r01_Code_L1 (lb : Bool) (n : Nat) (k20 : Nat) (a1 : List UInt8) (b2 : Int) (c3 : Int) (i12 : Int) : Option CV :=
  hold (loopC (E0 lb n 0 995) 0 (loopTemps (sub (B F_r01_Code) [1, 0, 1, 0, 0]) ++ []) [] (sub (B F_r01_Code) [1, 0, 1, 0, 0]) (blockK 0 (seqK (E0 lb n 0 998) (sub (B F_r01_Code) [1, 0]) (sub (B F_r01_Code) [1, 1]) (retK Tryd.prog (R F_r01_Code) 0 (outK (tightF Tryd.prog F_r01_Code))))) k20 ⟨fr 36 [(0, .val (.str a1)), (1, .val (.int .i64 b2)), (2, .val (.int .i64 c3)), (6, .val (.bool false)), (7, .val (.int .i64 i12))], [bx 36 []], KK⟩)

noncomputable def r01_Code_J2 (lb : Bool) (n : Nat) (a1 : List UInt8) (b2 : Int) (c3 : Int) (i27 : Int) : Option CV :=
  hold (E0 lb n 0 998 (sub (B F_r01_Code) [1, 1]) (retK Tryd.prog (R F_r01_Code) 0 (outK (tightF Tryd.prog F_r01_Code))) ⟨fr 36 [(0, .val (.str a1)), (1, .val (.int .i64 b2)), (2, .val (.int .i64 c3)), (6, .val (.bool false)), (7, .val (.int .i64 i27))], [bx 36 []], KK⟩)

theorem r01_Code_J2_eq (lb : Bool) (n : Nat) (a1 : List UInt8) (b2 : Int) (c3 : Int) (i27 : Int) :
  r01_Code_J2 lb n a1 b2 c3 i27 =
 bif (decide ((a1.length : Int) ≥ b2)) then
 (some (.bool (decide ((a1.length : Int) ≤ c3))))
 else
 (some (.bool false)) := (hold_eq _).trans (by kernel_rfl)

theorem r01_Code_L1_succ (lb : Bool) (n k20 : Nat) (a1 : List UInt8) (b2 : Int) (c3 : Int) (i12 : Int) :
  r01_Code_L1 lb n (k20 + 1) a1 b2 c3 i12 =
 bif (decide (i12 < (a1.length : Int))) then
 (optO (atS a1 i12) fun c21 =>
 optO (C lb n F_r01_upper [.int .u8 (c21.toNat : Int)]) fun r22 =>
 optO (CV.asB r22) fun b23 =>
 bif (!b23) then
 (optO (atS a1 i12) fun c24 =>
 optO (C lb n F_r01_digit [.int .u8 (c24.toNat : Int)]) fun r25 =>
 optO (CV.asB r25) fun b26 =>
 bif (!b26) then
 (some (.bool false))
 else
 (r01_Code_L1 lb n k20 a1 b2 c3 (IntKind.wrap .i64 (i12 + 1))))
 else
 (r01_Code_L1 lb n k20 a1 b2 c3 (IntKind.wrap .i64 (i12 + 1))))
 else
 (r01_Code_J2 lb n a1 b2 c3 i12) := (hold_eq _).trans (by kernel_rfl)

theorem r01_Code_L1_zero (lb : Bool) (n : Nat) (a1 : List UInt8) (b2 : Int) (c3 : Int) (i12 : Int) :
  r01_Code_L1 lb n 0 a1 b2 c3 i12 =
 none := (hold_eq _).trans (by kernel_rfl)

theorem r01_Code_eq (lb : Bool) (n : Nat) (a1 : List UInt8) (b2 : Int) (c3 : Int) :
  top lb n F_r01_Code [.str a1, .int .i64 b2, .int .i64 c3] =
 r01_Code_L1 lb n n a1 b2 c3 0 := by kernel_rfl

/-! airline/airlineref01.Airport -/
theorem r01_Airport_eq (lb : Bool) (n : Nat) (a1 : List UInt8) :
  top lb n F_r01_Airport [.str a1] =
 optO (C lb n F_r01_letters [.str a1, .int .i64 3]) fun r2 =>
 some (r2) := by kernel_rfl

/-! airline/airlineref01.Country -/
theorem r01_Country_eq (lb : Bool) (n : Nat) (a1 : List UInt8) :
  top lb n F_r01_Country [.str a1] =
 optO (C lb n F_r01_letters [.str a1, .int .i64 2]) fun r2 =>
 some (r2) := by kernel_rfl

/-! airline/airlineref01.digits -/
theorem r01_digits_eq (lb : Bool) (n : Nat) (a1 : Int) :
  top lb n F_r01_digits [.int .u64 a1] =
 bif (decide (a1 < 10)) then
 (chkO (decide ((0 : Int) ≤ (IntKind.wrap .u64 (a1 + 1)) ∧ (IntKind.wrap .u64 (a1 + 1)) ≤ 10)) (
 chkO (decide ((0 : Int) ≤ a1 ∧ a1 ≤ (IntKind.wrap .u64 (a1 + 1)))) (
 some (.str ((([48, 49, 50, 51, 52, 53, 54, 55, 56, 57] : List UInt8).take ((IntKind.wrap .u64 (a1 + 1)).toNat)).drop a1.toNat)))))
 else
 (optO (C lb n F_r01_digits [.int .u64 (IntKind.wrap .u64 (Int.tdiv a1 10))]) fun r2 =>
 chkO (decide ((0 : Int) ≤ (IntKind.wrap .u64 ((Int.tmod a1 10) + 1)) ∧ (IntKind.wrap .u64 ((Int.tmod a1 10) + 1)) ≤ 10)) (
 chkO (decide ((0 : Int) ≤ (Int.tmod a1 10) ∧ (Int.tmod a1 10) ≤ (IntKind.wrap .u64 ((Int.tmod a1 10) + 1)))) (
 optO (CV.asS r2) fun s3 =>
 chkO (decide (s3.length + ((([48, 49, 50, 51, 52, 53, 54, 55, 56, 57] : List UInt8).take ((IntKind.wrap .u64 ((Int.tmod a1 10) + 1)).toNat)).drop ((Int.tmod a1 10).toNat)).length ≤ 9223372036854775807)) (
 some (.str (s3 ++ ((([48, 49, 50, 51, 52, 53, 54, 55, 56, 57] : List UInt8).take ((IntKind.wrap .u64 ((Int.tmod a1 10) + 1)).toNat)).drop ((Int.tmod a1 10).toNat)))))))) := by kernel_rfl

/-! airline/text.Code -/
theorem text_Code_eq (lb : Bool) (n : Nat) (a1 : List UInt8) (b2 : Int) (c3 : Int) :
  top lb n F_text_Code [.str a1, .int .i64 b2, .int .i64 c3] =
 bif (decide ((a1.length : Int) ≥ b2)) then
 (bif (decide ((a1.length : Int) ≤ c3)) then
 (optO (C lb n F_text_every [.str a1, .fn F_text_Code_1]) fun r4 =>
 some (r4))
 else
 (some (.bool false)))
 else
 (some (.bool false)) := by kernel_rfl

/-! airline/text.digit -/
theorem text_digit_eq (lb : Bool) (n : Nat) (a1 : Int) :
  top lb n F_text_digit [.int .u8 a1] =
 bif (decide (a1 ≥ 48)) then
 (some (.bool (decide (a1 ≤ 57))))
 else
 (some (.bool false)) := by kernel_rfl

/-! airline/text.Join -/
noncomputable def text_Join_L1 (lb : Bool) (n : Nat) (k19 : Nat) (an1 : Bool) (a2 : List (List CV)) (l11 : List (List CV)) (i12 : Int) : Option CV :=
  hold (loopC (E0 lb n 0 994) 0 (loopTemps (sub (B F_text_Join) [1, 1, 0, 1, 0, 0]) ++ [5, 5]) [] (sub (B F_text_Join) [1, 1, 0, 1, 0, 0]) (blockK 0 (seqK (E0 lb n 0 997) (sub (B F_text_Join) [1, 1, 0]) (sub (B F_text_Join) [1, 1, 1]) (retK Tryd.prog (R F_text_Join) 0 (outK (tightF Tryd.prog F_text_Join))))) k19 ⟨fr 27 [(0, .val (.list an1 a2)), (2, .val (.str [])), (3, .lst true false 9 l11), (6, .val (.list an1 a2)), (7, .val (.int .i64 (a2.length : Int))), (8, .val (.list false [])), (9, .val (.list an1 a2)), (10, .val (.int .i64 (a2.length : Int))), (11, .val (.int .i64 i12))], [bx 27 []], KK⟩)

noncomputable def text_Join_J2 (lb : Bool) (n : Nat) (an1 : Bool) (a2 : List (List CV)) (b25 : Bool) (l26 : List (List CV)) : Option CV :=
  hold (E0 lb n 0 997 (sub (B F_text_Join) [1, 1, 1]) (retK Tryd.prog (R F_text_Join) 0 (outK (tightF Tryd.prog F_text_Join))) ⟨fr 27 [(0, .val (.list an1 a2)), (2, .val (.str [])), (3, .lst true b25 9 l26), (6, .val (.list an1 a2)), (7, .val (.int .i64 (a2.length : Int))), (8, .val (.list false []))], [bx 27 []], KK⟩)

theorem text_Join_J2_eq (lb : Bool) (n : Nat) (an1 : Bool) (a2 : List (List CV)) (b25 : Bool) (l26 : List (List CV)) :
  text_Join_J2 lb n an1 a2 b25 l26 =
 optO (C lb n F_strings_Join [.list b25 l26, .str [32]]) fun r27 =>
 some (r27) := (hold_eq _).trans (by kernel_rfl)

theorem text_Join_L1_succ (lb : Bool) (n k19 : Nat) (an1 : Bool) (a2 : List (List CV)) (l11 : List (List CV)) (i12 : Int) :
  text_Join_L1 lb n (k19 + 1) an1 a2 l11 i12 =
 bif (decide (i12 < (a2.length : Int))) then
 (optO (atL a2 i12) fun c20 =>
 chkO (c20.length == 1) (
 optO (c20[0]?) fun x21 =>
 optO (C lb n F_text_plain [x21]) fun r22 =>
 optO (CV.asB r22) fun b23 =>
 bif (!b23) then
 (optO (C lb n F_text_Quote [x21]) fun r24 =>
 chkO (CV.isCell r24) (
 chkO (room (l11.length + 1) 16) (
 text_Join_L1 lb n k19 an1 a2 (l11 ++ [[r24]]) (IntKind.wrap .i64 (i12 + 1)))))
 else
 (chkO (CV.isCell x21) (
 chkO (room (l11.length + 1) 16) (
 text_Join_L1 lb n k19 an1 a2 (l11 ++ [[x21]]) (IntKind.wrap .i64 (i12 + 1)))))))
 else
 (text_Join_J2 lb n an1 a2 false l11) := (hold_eq _).trans (by kernel_rfl)

theorem text_Join_L1_zero (lb : Bool) (n : Nat) (an1 : Bool) (a2 : List (List CV)) (l11 : List (List CV)) (i12 : Int) :
  text_Join_L1 lb n 0 an1 a2 l11 i12 =
 none := (hold_eq _).trans (by kernel_rfl)

theorem text_Join_eq (lb : Bool) (n : Nat) (an1 : Bool) (a2 : List (List CV)) :
  top lb n F_text_Join [.list an1 a2] =
 chkO (decide (0 ≤ (0 : Int)) && decide ((0 : Int) ≤ ((a2.length : Int) : Int)) && decide (((a2.length : Int) : Int) * 16 ≤ 140737488355328) && decide (((a2.length : Int) : Int) ≤ 140737488355328)) (
 text_Join_L1 lb n n an1 a2 [] 0) := by kernel_rfl

/-! airline/airlineref01.Carrier -/
theorem r01_Carrier_eq (lb : Bool) (n : Nat) (a1 : List UInt8) :
  top lb n F_r01_Carrier [.str a1] =
 optO (C lb n F_r01_Code [.str a1, .int .i64 2, .int .i64 2]) fun r2 =>
 optO (CV.asB r2) fun b3 =>
 bif b3 then
 (optO (atS a1 0) fun c4 =>
 optO (C lb n F_r01_upper [.int .u8 (c4.toNat : Int)]) fun r5 =>
 optO (CV.asB r5) fun b6 =>
 bif b6 then
 (some (.bool true))
 else
 (optO (atS a1 1) fun c7 =>
 optO (C lb n F_r01_upper [.int .u8 (c7.toNat : Int)]) fun r9 =>
 some (r9)))
 else
 (some (.bool false)) := by kernel_rfl

/-! airline/airlineref01.upper -/
theorem r01_upper_eq (lb : Bool) (n : Nat) (a1 : Int) :
  top lb n F_r01_upper [.int .u8 a1] =
 bif (decide (a1 ≥ 65)) then
 (some (.bool (decide (a1 ≤ 90))))
 else
 (some (.bool false)) := by kernel_rfl

/-! airline/airlineref01.digit -/
theorem r01_digit_eq (lb : Bool) (n : Nat) (a1 : Int) :
  top lb n F_r01_digit [.int .u8 a1] =
 bif (decide (a1 ≥ 48)) then
 (some (.bool (decide (a1 ≤ 57))))
 else
 (some (.bool false)) := by kernel_rfl

/-! airline/airlineref01.letters -/
noncomputable def r01_letters_L1 (lb : Bool) (n : Nat) (k11 : Nat) (a1 : List UInt8) (b2 : Int) (i6 : Int) : Option CV :=
  hold (loopC (E0 lb n 0 995) 0 (loopTemps (sub (B F_r01_letters) [1, 0, 1, 0, 0]) ++ []) [] (sub (B F_r01_letters) [1, 0, 1, 0, 0]) (blockK 0 (seqK (E0 lb n 0 998) (sub (B F_r01_letters) [1, 0]) (sub (B F_r01_letters) [1, 1]) (retK Tryd.prog (R F_r01_letters) 0 (outK (tightF Tryd.prog F_r01_letters))))) k11 ⟨fr 21 [(0, .val (.str a1)), (1, .val (.int .i64 b2)), (4, .val (.bool false)), (5, .val (.int .i64 i6))], [bx 21 []], KK⟩)

noncomputable def r01_letters_J2 (lb : Bool) (n : Nat) (a1 : List UInt8) (b2 : Int) (i15 : Int) : Option CV :=
  hold (E0 lb n 0 998 (sub (B F_r01_letters) [1, 1]) (retK Tryd.prog (R F_r01_letters) 0 (outK (tightF Tryd.prog F_r01_letters))) ⟨fr 21 [(0, .val (.str a1)), (1, .val (.int .i64 b2)), (4, .val (.bool false)), (5, .val (.int .i64 i15))], [bx 21 []], KK⟩)

theorem r01_letters_J2_eq (lb : Bool) (n : Nat) (a1 : List UInt8) (b2 : Int) (i15 : Int) :
  r01_letters_J2 lb n a1 b2 i15 =
 some (.bool ((a1.length : Int) == b2)) := (hold_eq _).trans (by kernel_rfl)

theorem r01_letters_L1_succ (lb : Bool) (n k11 : Nat) (a1 : List UInt8) (b2 : Int) (i6 : Int) :
  r01_letters_L1 lb n (k11 + 1) a1 b2 i6 =
 bif (decide (i6 < (a1.length : Int))) then
 (optO (atS a1 i6) fun c12 =>
 optO (C lb n F_r01_upper [.int .u8 (c12.toNat : Int)]) fun r13 =>
 optO (CV.asB r13) fun b14 =>
 bif (!b14) then
 (some (.bool false))
 else
 (r01_letters_L1 lb n k11 a1 b2 (IntKind.wrap .i64 (i6 + 1))))
 else
 (r01_letters_J2 lb n a1 b2 i6) := (hold_eq _).trans (by kernel_rfl)

theorem r01_letters_L1_zero (lb : Bool) (n : Nat) (a1 : List UInt8) (b2 : Int) (i6 : Int) :
  r01_letters_L1 lb n 0 a1 b2 i6 =
 none := (hold_eq _).trans (by kernel_rfl)

theorem r01_letters_eq (lb : Bool) (n : Nat) (a1 : List UInt8) (b2 : Int) :
  top lb n F_r01_letters [.str a1, .int .i64 b2] =
 r01_letters_L1 lb n n a1 b2 0 := by kernel_rfl

/-! airline/text.Code$1 -/
theorem text_Code_1_eq (lb : Bool) (n : Nat) (a1 : Int) :
  top lb n F_text_Code_1 [.int .u8 a1] =
 optO (C lb n F_text_capital [.int .u8 a1]) fun r2 =>
 optO (CV.asB r2) fun b3 =>
 bif b3 then
 (some (.bool true))
 else
 (optO (C lb n F_text_digit [.int .u8 a1]) fun r4 =>
 some (r4)) := by kernel_rfl

/-! airline/text.capital -/
theorem text_capital_eq (lb : Bool) (n : Nat) (a1 : Int) :
  top lb n F_text_capital [.int .u8 a1] =
 bif (decide (a1 ≥ 65)) then
 (some (.bool (decide (a1 ≤ 90))))
 else
 (some (.bool false)) := by kernel_rfl

/-! airline/text.Airport -/
theorem text_Airport_eq (lb : Bool) (n : Nat) (a1 : List UInt8) :
  top lb n F_text_Airport [.str a1] =
 bif ((a1.length : Int) == 3) then
 (optO (C lb n F_text_every [.str a1, .fn F_text_capital]) fun r2 =>
 some (r2))
 else
 (some (.bool false)) := by kernel_rfl

/-! airline/text.plain -/
theorem text_plain_eq (lb : Bool) (n : Nat) (a1 : List UInt8) :
  top lb n F_text_plain [.str a1] =
 bif (!(a1 == [])) then
 (optO (C lb n F_text_every [.str a1, .fn F_text_plain_1]) fun r2 =>
 some (r2))
 else
 (some (.bool false)) := by kernel_rfl

/-! airline/text.Quote -/
noncomputable def text_Quote_L1 (lb : Bool) (n : Nat) (k24 : Nat) (a1 : List UInt8) (l17 : List (List CV)) (i18 : Int) : Option CV :=
  hold (loopC (E0 lb n 0 993) 0 (loopTemps (sub (B F_text_Quote) [1, 1, 1, 0, 1, 0, 0]) ++ [4, 5, 25, 36]) [] (sub (B F_text_Quote) [1, 1, 1, 0, 1, 0, 0]) (blockK 0 (seqK (E0 lb n 0 996) (sub (B F_text_Quote) [1, 1, 1, 0]) (sub (B F_text_Quote) [1, 1, 1, 1]) (retK Tryd.prog (R F_text_Quote) 0 (outK (tightF Tryd.prog F_text_Quote))))) k24 ⟨fr 57 [(0, .val (.str a1)), (2, .val (.str [])), (3, .lst true false 5 l17), (6, .val (.str a1)), (7, .val (.int .i64 (a1.length : Int))), (8, .val (.int .i64 (IntKind.wrap .i64 ((a1.length : Int) + 2)))), (9, .val (.list false [])), (10, .val (.list false [])), (11, .lst true false 5 [[CV.int .u8 34]]), (12, .val (.list false [[CV.int .u8 34]])), (13, .val (.str a1)), (14, .val (.int .i64 (a1.length : Int))), (15, .val (.int .i64 i18))], [bx 57 []], KK⟩)

noncomputable def text_Quote_J2 (lb : Bool) (n : Nat) (a1 : List UInt8) (b30 : Bool) (l31 : List (List CV)) : Option CV :=
  hold (E0 lb n 0 996 (sub (B F_text_Quote) [1, 1, 1, 1]) (retK Tryd.prog (R F_text_Quote) 0 (outK (tightF Tryd.prog F_text_Quote))) ⟨fr 57 [(0, .val (.str a1)), (2, .val (.str [])), (3, .lst true b30 5 l31), (6, .val (.str a1)), (7, .val (.int .i64 (a1.length : Int))), (8, .val (.int .i64 (IntKind.wrap .i64 ((a1.length : Int) + 2)))), (9, .val (.list false [])), (10, .val (.list false [])), (11, .lst true false 5 [[CV.int .u8 34]]), (12, .val (.list false [[CV.int .u8 34]]))], [bx 57 []], KK⟩)

theorem text_Quote_J2_eq (lb : Bool) (n : Nat) (a1 : List UInt8) (b30 : Bool) (l31 : List (List CV)) :
  text_Quote_J2 lb n a1 b30 l31 =
 chkO (room (l31.length + 1) 1) (
 optO (bytesOf (l31 ++ [[CV.int .u8 34]])) fun s33 =>
 some (.str s33)) := (hold_eq _).trans (by kernel_rfl)

theorem text_Quote_L1_succ (lb : Bool) (n k24 : Nat) (a1 : List UInt8) (l17 : List (List CV)) (i18 : Int) :
  text_Quote_L1 lb n (k24 + 1) a1 l17 i18 =
 bif (decide (i18 < (a1.length : Int))) then
 (optO (atS a1 i18) fun c25 =>
 bif ((c25.toNat : Int) == 34) then
 (chkO (room (l17.length + 2) 1) (
 text_Quote_L1 lb n k24 a1 (l17 ++ [[CV.int .u8 92], [CV.int .u8 (c25.toNat : Int)]]) (IntKind.wrap .i64 (i18 + 1))))
 else
 (bif ((c25.toNat : Int) == 92) then
 (chkO (room (l17.length + 2) 1) (
 text_Quote_L1 lb n k24 a1 (l17 ++ [[CV.int .u8 92], [CV.int .u8 (c25.toNat : Int)]]) (IntKind.wrap .i64 (i18 + 1))))
 else
 (bif (decide ((c25.toNat : Int) < 32)) then
 (optO (atS [48, 49, 50, 51, 52, 53, 54, 55, 56, 57, 97, 98, 99, 100, 101, 102] (Int.fdiv (c25.toNat : Int) (2 ^ 4))) fun c26 =>
 optO (atS [48, 49, 50, 51, 52, 53, 54, 55, 56, 57, 97, 98, 99, 100, 101, 102] (IntKind.wrap .u8 ((BitVec.ofInt 8 (c25.toNat : Int) &&& BitVec.ofInt 8 15).toNat))) fun c27 =>
 chkO (room (l17.length + 4) 1) (
 text_Quote_L1 lb n k24 a1 (l17 ++ [[CV.int .u8 92], [CV.int .u8 120], [CV.int .u8 (c26.toNat : Int)], [CV.int .u8 (c27.toNat : Int)]]) (IntKind.wrap .i64 (i18 + 1))))
 else
 (bif (decide ((c25.toNat : Int) > 126)) then
 (optO (atS [48, 49, 50, 51, 52, 53, 54, 55, 56, 57, 97, 98, 99, 100, 101, 102] (Int.fdiv (c25.toNat : Int) (2 ^ 4))) fun c28 =>
 optO (atS [48, 49, 50, 51, 52, 53, 54, 55, 56, 57, 97, 98, 99, 100, 101, 102] (IntKind.wrap .u8 ((BitVec.ofInt 8 (c25.toNat : Int) &&& BitVec.ofInt 8 15).toNat))) fun c29 =>
 chkO (room (l17.length + 4) 1) (
 text_Quote_L1 lb n k24 a1 (l17 ++ [[CV.int .u8 92], [CV.int .u8 120], [CV.int .u8 (c28.toNat : Int)], [CV.int .u8 (c29.toNat : Int)]]) (IntKind.wrap .i64 (i18 + 1))))
 else
 (chkO (room (l17.length + 1) 1) (
 text_Quote_L1 lb n k24 a1 (l17 ++ [[CV.int .u8 (c25.toNat : Int)]]) (IntKind.wrap .i64 (i18 + 1))))))))
 else
 (text_Quote_J2 lb n a1 false l17) := (hold_eq _).trans (by kernel_rfl)

theorem text_Quote_L1_zero (lb : Bool) (n : Nat) (a1 : List UInt8) (l17 : List (List CV)) (i18 : Int) :
  text_Quote_L1 lb n 0 a1 l17 i18 =
 none := (hold_eq _).trans (by kernel_rfl)

theorem text_Quote_eq (lb : Bool) (n : Nat) (a1 : List UInt8) :
  top lb n F_text_Quote [.str a1] =
 chkO (decide (0 ≤ (0 : Int)) && decide ((0 : Int) ≤ ((IntKind.wrap .i64 ((a1.length : Int) + 2)) : Int)) && decide (((IntKind.wrap .i64 ((a1.length : Int) + 2)) : Int) * 1 ≤ 140737488355328) && decide (((IntKind.wrap .i64 ((a1.length : Int) + 2)) : Int) ≤ 140737488355328)) (
 text_Quote_L1 lb n n a1 [[CV.int .u8 34]] 0) := by kernel_rfl

/-! airline/text.plain$1 -/
theorem text_plain_1_eq (lb : Bool) (n : Nat) (a1 : Int) :
  top lb n F_text_plain_1 [.int .u8 a1] =
 bif (decide (a1 > 32)) then
 (bif (decide (a1 ≤ 126)) then
 (some (.bool (a1 != 34)))
 else
 (some (.bool false)))
 else
 (some (.bool false)) := by kernel_rfl

/-! airline/text.every -/
noncomputable def text_every_text_digit_L1 (lb : Bool) (n : Nat) (k10 : Nat) (a1 : List UInt8) (i5 : Int) : Option CV :=
  hold (loopC (E0 lb n 0 995) 0 (loopTemps (sub (B F_text_every) [1, 0, 1, 0, 0]) ++ [5]) [] (sub (B F_text_every) [1, 0, 1, 0, 0]) (blockK 0 (seqK (E0 lb n 0 998) (sub (B F_text_every) [1, 0]) (sub (B F_text_every) [1, 1]) (retK Tryd.prog (R F_text_every) 0 (outK (tightF Tryd.prog F_text_every))))) k10 ⟨fr 18 [(0, .val (.str a1)), (1, .val (.fn F_text_digit)), (4, .val (.bool false)), (6, .val (.str a1)), (7, .val (.int .i64 (a1.length : Int))), (8, .val (.int .i64 i5))], [bx 18 []], KK⟩)

noncomputable def text_every_text_digit_J2 (lb : Bool) (n : Nat) (a1 : List UInt8) : Option CV :=
  hold (E0 lb n 0 998 (sub (B F_text_every) [1, 1]) (retK Tryd.prog (R F_text_every) 0 (outK (tightF Tryd.prog F_text_every))) ⟨fr 18 [(0, .val (.str a1)), (1, .val (.fn F_text_digit)), (4, .val (.bool false))], [bx 18 []], KK⟩)

theorem text_every_text_digit_J2_eq (lb : Bool) (n : Nat) (a1 : List UInt8) :
  text_every_text_digit_J2 lb n a1 =
 some (.bool true) := (hold_eq _).trans (by kernel_rfl)

theorem text_every_text_digit_L1_succ (lb : Bool) (n k10 : Nat) (a1 : List UInt8) (i5 : Int) :
  text_every_text_digit_L1 lb n (k10 + 1) a1 i5 =
 bif (decide (i5 < (a1.length : Int))) then
 (optO (atS a1 i5) fun c11 =>
 optO (C lb n F_text_digit [.int .u8 (c11.toNat : Int)]) fun r12 =>
 optO (CV.asB r12) fun b13 =>
 bif (!b13) then
 (some (.bool false))
 else
 (text_every_text_digit_L1 lb n k10 a1 (IntKind.wrap .i64 (i5 + 1))))
 else
 (text_every_text_digit_J2 lb n a1 ) := (hold_eq _).trans (by kernel_rfl)

theorem text_every_text_digit_L1_zero (lb : Bool) (n : Nat) (a1 : List UInt8) (i5 : Int) :
  text_every_text_digit_L1 lb n 0 a1 i5 =
 none := (hold_eq _).trans (by kernel_rfl)

theorem text_every_text_digit_eq (lb : Bool) (n : Nat) (a1 : List UInt8) :
  top lb n F_text_every [.str a1, .fn F_text_digit] =
 text_every_text_digit_L1 lb n n a1 0 := by kernel_rfl

/-! airline/text.every -/
noncomputable def text_every_text_capital_L1 (lb : Bool) (n : Nat) (k10 : Nat) (a1 : List UInt8) (i5 : Int) : Option CV :=
  hold (loopC (E0 lb n 0 995) 0 (loopTemps (sub (B F_text_every) [1, 0, 1, 0, 0]) ++ [5]) [] (sub (B F_text_every) [1, 0, 1, 0, 0]) (blockK 0 (seqK (E0 lb n 0 998) (sub (B F_text_every) [1, 0]) (sub (B F_text_every) [1, 1]) (retK Tryd.prog (R F_text_every) 0 (outK (tightF Tryd.prog F_text_every))))) k10 ⟨fr 18 [(0, .val (.str a1)), (1, .val (.fn F_text_capital)), (4, .val (.bool false)), (6, .val (.str a1)), (7, .val (.int .i64 (a1.length : Int))), (8, .val (.int .i64 i5))], [bx 18 []], KK⟩)

noncomputable def text_every_text_capital_J2 (lb : Bool) (n : Nat) (a1 : List UInt8) : Option CV :=
  hold (E0 lb n 0 998 (sub (B F_text_every) [1, 1]) (retK Tryd.prog (R F_text_every) 0 (outK (tightF Tryd.prog F_text_every))) ⟨fr 18 [(0, .val (.str a1)), (1, .val (.fn F_text_capital)), (4, .val (.bool false))], [bx 18 []], KK⟩)

theorem text_every_text_capital_J2_eq (lb : Bool) (n : Nat) (a1 : List UInt8) :
  text_every_text_capital_J2 lb n a1 =
 some (.bool true) := (hold_eq _).trans (by kernel_rfl)

theorem text_every_text_capital_L1_succ (lb : Bool) (n k10 : Nat) (a1 : List UInt8) (i5 : Int) :
  text_every_text_capital_L1 lb n (k10 + 1) a1 i5 =
 bif (decide (i5 < (a1.length : Int))) then
 (optO (atS a1 i5) fun c11 =>
 optO (C lb n F_text_capital [.int .u8 (c11.toNat : Int)]) fun r12 =>
 optO (CV.asB r12) fun b13 =>
 bif (!b13) then
 (some (.bool false))
 else
 (text_every_text_capital_L1 lb n k10 a1 (IntKind.wrap .i64 (i5 + 1))))
 else
 (text_every_text_capital_J2 lb n a1 ) := (hold_eq _).trans (by kernel_rfl)

theorem text_every_text_capital_L1_zero (lb : Bool) (n : Nat) (a1 : List UInt8) (i5 : Int) :
  text_every_text_capital_L1 lb n 0 a1 i5 =
 none := (hold_eq _).trans (by kernel_rfl)

theorem text_every_text_capital_eq (lb : Bool) (n : Nat) (a1 : List UInt8) :
  top lb n F_text_every [.str a1, .fn F_text_capital] =
 text_every_text_capital_L1 lb n n a1 0 := by kernel_rfl

/-! airline/text.every -/
noncomputable def text_every_text_Code_1_L1 (lb : Bool) (n : Nat) (k10 : Nat) (a1 : List UInt8) (i5 : Int) : Option CV :=
  hold (loopC (E0 lb n 0 995) 0 (loopTemps (sub (B F_text_every) [1, 0, 1, 0, 0]) ++ [5]) [] (sub (B F_text_every) [1, 0, 1, 0, 0]) (blockK 0 (seqK (E0 lb n 0 998) (sub (B F_text_every) [1, 0]) (sub (B F_text_every) [1, 1]) (retK Tryd.prog (R F_text_every) 0 (outK (tightF Tryd.prog F_text_every))))) k10 ⟨fr 18 [(0, .val (.str a1)), (1, .val (.fn F_text_Code_1)), (4, .val (.bool false)), (6, .val (.str a1)), (7, .val (.int .i64 (a1.length : Int))), (8, .val (.int .i64 i5))], [bx 18 []], KK⟩)

noncomputable def text_every_text_Code_1_J2 (lb : Bool) (n : Nat) (a1 : List UInt8) : Option CV :=
  hold (E0 lb n 0 998 (sub (B F_text_every) [1, 1]) (retK Tryd.prog (R F_text_every) 0 (outK (tightF Tryd.prog F_text_every))) ⟨fr 18 [(0, .val (.str a1)), (1, .val (.fn F_text_Code_1)), (4, .val (.bool false))], [bx 18 []], KK⟩)

theorem text_every_text_Code_1_J2_eq (lb : Bool) (n : Nat) (a1 : List UInt8) :
  text_every_text_Code_1_J2 lb n a1 =
 some (.bool true) := (hold_eq _).trans (by kernel_rfl)

theorem text_every_text_Code_1_L1_succ (lb : Bool) (n k10 : Nat) (a1 : List UInt8) (i5 : Int) :
  text_every_text_Code_1_L1 lb n (k10 + 1) a1 i5 =
 bif (decide (i5 < (a1.length : Int))) then
 (optO (atS a1 i5) fun c11 =>
 optO (C lb n F_text_Code_1 [.int .u8 (c11.toNat : Int)]) fun r12 =>
 optO (CV.asB r12) fun b13 =>
 bif (!b13) then
 (some (.bool false))
 else
 (text_every_text_Code_1_L1 lb n k10 a1 (IntKind.wrap .i64 (i5 + 1))))
 else
 (text_every_text_Code_1_J2 lb n a1 ) := (hold_eq _).trans (by kernel_rfl)

theorem text_every_text_Code_1_L1_zero (lb : Bool) (n : Nat) (a1 : List UInt8) (i5 : Int) :
  text_every_text_Code_1_L1 lb n 0 a1 i5 =
 none := (hold_eq _).trans (by kernel_rfl)

theorem text_every_text_Code_1_eq (lb : Bool) (n : Nat) (a1 : List UInt8) :
  top lb n F_text_every [.str a1, .fn F_text_Code_1] =
 text_every_text_Code_1_L1 lb n n a1 0 := by kernel_rfl

/-! airline/text.every -/
noncomputable def text_every_text_plain_1_L1 (lb : Bool) (n : Nat) (k10 : Nat) (a1 : List UInt8) (i5 : Int) : Option CV :=
  hold (loopC (E0 lb n 0 995) 0 (loopTemps (sub (B F_text_every) [1, 0, 1, 0, 0]) ++ [5]) [] (sub (B F_text_every) [1, 0, 1, 0, 0]) (blockK 0 (seqK (E0 lb n 0 998) (sub (B F_text_every) [1, 0]) (sub (B F_text_every) [1, 1]) (retK Tryd.prog (R F_text_every) 0 (outK (tightF Tryd.prog F_text_every))))) k10 ⟨fr 18 [(0, .val (.str a1)), (1, .val (.fn F_text_plain_1)), (4, .val (.bool false)), (6, .val (.str a1)), (7, .val (.int .i64 (a1.length : Int))), (8, .val (.int .i64 i5))], [bx 18 []], KK⟩)

noncomputable def text_every_text_plain_1_J2 (lb : Bool) (n : Nat) (a1 : List UInt8) : Option CV :=
  hold (E0 lb n 0 998 (sub (B F_text_every) [1, 1]) (retK Tryd.prog (R F_text_every) 0 (outK (tightF Tryd.prog F_text_every))) ⟨fr 18 [(0, .val (.str a1)), (1, .val (.fn F_text_plain_1)), (4, .val (.bool false))], [bx 18 []], KK⟩)

theorem text_every_text_plain_1_J2_eq (lb : Bool) (n : Nat) (a1 : List UInt8) :
  text_every_text_plain_1_J2 lb n a1 =
 some (.bool true) := (hold_eq _).trans (by kernel_rfl)

theorem text_every_text_plain_1_L1_succ (lb : Bool) (n k10 : Nat) (a1 : List UInt8) (i5 : Int) :
  text_every_text_plain_1_L1 lb n (k10 + 1) a1 i5 =
 bif (decide (i5 < (a1.length : Int))) then
 (optO (atS a1 i5) fun c11 =>
 optO (C lb n F_text_plain_1 [.int .u8 (c11.toNat : Int)]) fun r12 =>
 optO (CV.asB r12) fun b13 =>
 bif (!b13) then
 (some (.bool false))
 else
 (text_every_text_plain_1_L1 lb n k10 a1 (IntKind.wrap .i64 (i5 + 1))))
 else
 (text_every_text_plain_1_J2 lb n a1 ) := (hold_eq _).trans (by kernel_rfl)

theorem text_every_text_plain_1_L1_zero (lb : Bool) (n : Nat) (a1 : List UInt8) (i5 : Int) :
  text_every_text_plain_1_L1 lb n 0 a1 i5 =
 none := (hold_eq _).trans (by kernel_rfl)

theorem text_every_text_plain_1_eq (lb : Bool) (n : Nat) (a1 : List UInt8) :
  top lb n F_text_every [.str a1, .fn F_text_plain_1] =
 text_every_text_plain_1_L1 lb n n a1 0 := by kernel_rfl

end Go.Proofs
