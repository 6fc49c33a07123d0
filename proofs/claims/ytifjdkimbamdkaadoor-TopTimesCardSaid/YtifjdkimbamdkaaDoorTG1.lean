/- Equations of functions, printed by program. Conditions: none. -/
import Derived.Test.YtifjdkimbamdkaaDoorTEv
namespace Go.Proofs
open Go.Am
set_option maxRecDepth 100000
set_option linter.unusedVariables false
/-! airline/airlineref01.Decimal -/
theorem r01_Decimal_eq (lb : Bool) (n : Nat) (a1 : Int) :
  top lb n F_r01_Decimal [.int .i64 a1] =
 bif (decide (a1 < 0)) then
 (optO (C lb n F_r01_digits [.int .u64 (IntKind.wrap .u64 ((IntKind.wrap .u64 (IntKind.wrap .i64 (0 - (IntKind.wrap .i64 (a1 + 1))))) + 1))]) fun r2 =>
 optO (CV.asS r2) fun s3 =>
 chkO (decide (([45] : List UInt8).length + s3.length ≤ 9223372036854775807)) (
 some (.str (([45] : List UInt8) ++ s3))))
 else
 (optO (C lb n F_r01_digits [.int .u64 (IntKind.wrap .u64 (a1))]) fun r4 =>
 some (r4)) := by kernel_rfl

/-! airline/airlineref01.Code -/
noncomputable def r01_Code_L1 (lb : Bool) (n : Nat) (k20 : Nat) (a1 : List UInt8) (b2 : Int) (c3 : Int) (i12 : Int) : Option CV :=
  hold (loopC (E0 lb n 0 995) 0 (loopTemps (sub (B F_r01_Code) [1, 0, 1, 0, 0]) ++ []) [] (sub (B F_r01_Code) [1, 0, 1, 0, 0]) (blockK 0 (seqK (E0 lb n 0 998) (sub (B F_r01_Code) [1, 0]) (sub (B F_r01_Code) [1, 1]) (retK Tryd.prog (R F_r01_Code) 0 (outK (tightF Tryd.prog F_r01_Code))))) k20 ⟨fr 36 [(0, .val (.str a1)), (1, .val (.int .i64 b2)), (2, .val (.int .i64 c3)), (6, .val (.bool false)), (7, .val (.int .i64 i12))], [bx 36 []], KK⟩)

noncomputable def r01_Code_J2 (lb : Bool) (n : Nat) (a1 : List UInt8) (b2 : Int) (c3 : Int) (i27 : Int) : Option CV :=
  hold (E0 lb n 0 998 (sub (B F_r01_Code) [1, 1]) (retK Tryd.prog (R F_r01_Code) 0 (outK (tightF Tryd.prog F_r01_Code))) ⟨fr 36 [(0, .val (.str a1)), (1, .val (.int .i64 b2)), (2, .val (.int .i64 c3)), (6, .val (.bool false)), (7, .val (.int .i64 i27))], [bx 36 []], KK⟩)

theorem r01_Code_J2_eq (lb : Bool) (n : Nat) (a1 : List UInt8) (b2 : Int) (c3 : Int) (i27 : Int) :
  r01_Code_J2 lb n a1 b2 c3 i27 =
 bif (decide ((a1.length : Int) ≥ b2)) then
 (some (.bool (decide ((a1.length : Int) ≤ c3))))
 else
 (some (.bool false)) := (hold_eq _).trans (by kernel_rfl)

theorem r01_Code_L1_succ (lb : Bool) (n k20 : Nat) (a1 : List UInt8) (b2 : Int) (c3 : Int) (i12 : Int) :
  r01_Code_L1 lb n (k20 + 1) a1 b2 c3 i12 =
 bif (decide (i12 < (a1.length : Int))) then
 (optO (atS a1 i12) fun c21 =>
 optO (C lb n F_r01_upper [.int .u8 (c21.toNat : Int)]) fun r22 =>
 optO (CV.asB r22) fun b23 =>
 bif (!b23) then
 (optO (atS a1 i12) fun c24 =>
 optO (C lb n F_r01_digit [.int .u8 (c24.toNat : Int)]) fun r25 =>
 optO (CV.asB r25) fun b26 =>
 bif (!b26) then
 (some (.bool false))
 else
 (r01_Code_L1 lb n k20 a1 b2 c3 (IntKind.wrap .i64 (i12 + 1))))
 else
 (r01_Code_L1 lb n k20 a1 b2 c3 (IntKind.wrap .i64 (i12 + 1))))
 else
 (r01_Code_J2 lb n a1 b2 c3 i12) := (hold_eq _).trans (by kernel_rfl)

theorem r01_Code_L1_zero (lb : Bool) (n : Nat) (a1 : List UInt8) (b2 : Int) (c3 : Int) (i12 : Int) :
  r01_Code_L1 lb n 0 a1 b2 c3 i12 =
 none := (hold_eq _).trans (by kernel_rfl)

theorem r01_Code_eq (lb : Bool) (n : Nat) (a1 : List UInt8) (b2 : Int) (c3 : Int) :
  top lb n F_r01_Code [.str a1, .int .i64 b2, .int .i64 c3] =
 r01_Code_L1 lb n n a1 b2 c3 0 := by kernel_rfl

/-! airline/airlineref01.Airport -/
theorem r01_Airport_eq (lb : Bool) (n : Nat) (a1 : List UInt8) :
  top lb n F_r01_Airport [.str a1] =
 optO (C lb n F_r01_letters [.str a1, .int .i64 3]) fun r2 =>
 some (r2) := by kernel_rfl

/-! airline/airlineref01.Country -/
theorem r01_Country_eq (lb : Bool) (n : Nat) (a1 : List UInt8) :
  top lb n F_r01_Country [.str a1] =
 optO (C lb n F_r01_letters [.str a1, .int .i64 2]) fun r2 =>
 some (r2) := by kernel_rfl

/-! airline/airlineref01.digits -/
theorem r01_digits_eq (lb : Bool) (n : Nat) (a1 : Int) :
  top lb n F_r01_digits [.int .u64 a1] =
 bif (decide (a1 < 10)) then
 (chkO (decide ((0 : Int) ≤ (IntKind.wrap .u64 (a1 + 1)) ∧ (IntKind.wrap .u64 (a1 + 1)) ≤ 10)) (
 chkO (decide ((0 : Int) ≤ a1 ∧ a1 ≤ (IntKind.wrap .u64 (a1 + 1)))) (
 some (.str ((([48, 49, 50, 51, 52, 53, 54, 55, 56, 57] : List UInt8).take ((IntKind.wrap .u64 (a1 + 1)).toNat)).drop a1.toNat)))))
 else
 (optO (C lb n F_r01_digits [.int .u64 (IntKind.wrap .u64 (Int.tdiv a1 10))]) fun r2 =>
 chkO (decide ((0 : Int) ≤ (IntKind.wrap .u64 ((Int.tmod a1 10) + 1)) ∧ (IntKind.wrap .u64 ((Int.tmod a1 10) + 1)) ≤ 10)) (
 chkO (decide ((0 : Int) ≤ (Int.tmod a1 10) ∧ (Int.tmod a1 10) ≤ (IntKind.wrap .u64 ((Int.tmod a1 10) + 1)))) (
 optO (CV.asS r2) fun s3 =>
 chkO (decide (s3.length + ((([48, 49, 50, 51, 52, 53, 54, 55, 56, 57] : List UInt8).take ((IntKind.wrap .u64 ((Int.tmod a1 10) + 1)).toNat)).drop ((Int.tmod a1 10).toNat)).length ≤ 9223372036854775807)) (
 some (.str (s3 ++ ((([48, 49, 50, 51, 52, 53, 54, 55, 56, 57] : List UInt8).take ((IntKind.wrap .u64 ((Int.tmod a1 10) + 1)).toNat)).drop ((Int.tmod a1 10).toNat)))))))) := by kernel_rfl

/-! airline/airlineref01.Carrier -/
theorem r01_Carrier_eq (lb : Bool) (n : Nat) (a1 : List UInt8) :
  top lb n F_r01_Carrier [.str a1] =
 optO (C lb n F_r01_Code [.str a1, .int .i64 2, .int .i64 2]) fun r2 =>
 optO (CV.asB r2) fun b3 =>
 bif b3 then
 (optO (atS a1 0) fun c4 =>
 optO (C lb n F_r01_upper [.int .u8 (c4.toNat : Int)]) fun r5 =>
 optO (CV.asB r5) fun b6 =>
 bif b6 then
 (some (.bool true))
 else
 (optO (atS a1 1) fun c7 =>
 optO (C lb n F_r01_upper [.int .u8 (c7.toNat : Int)]) fun r9 =>
 some (r9)))
 else
 (some (.bool false)) := by kernel_rfl

/-! airline/airlineref01.upper -/
theorem r01_upper_eq (lb : Bool) (n : Nat) (a1 : Int) :
  top lb n F_r01_upper [.int .u8 a1] =
 bif (decide (a1 ≥ 65)) then
 (some (.bool (decide (a1 ≤ 90))))
 else
 (some (.bool false)) := by kernel_rfl

/-! airline/airlineref01.digit -/
theorem r01_digit_eq (lb : Bool) (n : Nat) (a1 : Int) :
  top lb n F_r01_digit [.int .u8 a1] =
 bif (decide (a1 ≥ 48)) then
 (some (.bool (decide (a1 ≤ 57))))
 else
 (some (.bool false)) := by kernel_rfl

/-! airline/airlineref01.letters -/
noncomputable def r01_letters_L1 (lb : Bool) (n : Nat) (k11 : Nat) (a1 : List UInt8) (b2 : Int) (i6 : Int) : Option CV :=
  hold (loopC (E0 lb n 0 995) 0 (loopTemps (sub (B F_r01_letters) [1, 0, 1, 0, 0]) ++ []) [] (sub (B F_r01_letters) [1, 0, 1, 0, 0]) (blockK 0 (seqK (E0 lb n 0 998) (sub (B F_r01_letters) [1, 0]) (sub (B F_r01_letters) [1, 1]) (retK Tryd.prog (R F_r01_letters) 0 (outK (tightF Tryd.prog F_r01_letters))))) k11 ⟨fr 21 [(0, .val (.str a1)), (1, .val (.int .i64 b2)), (4, .val (.bool false)), (5, .val (.int .i64 i6))], [bx 21 []], KK⟩)

noncomputable def r01_letters_J2 (lb : Bool) (n : Nat) (a1 : List UInt8) (b2 : Int) (i15 : Int) : Option CV :=
  hold (E0 lb n 0 998 (sub (B F_r01_letters) [1, 1]) (retK Tryd.prog (R F_r01_letters) 0 (outK (tightF Tryd.prog F_r01_letters))) ⟨fr 21 [(0, .val (.str a1)), (1, .val (.int .i64 b2)), (4, .val (.bool false)), (5, .val (.int .i64 i15))], [bx 21 []], KK⟩)

theorem r01_letters_J2_eq (lb : Bool) (n : Nat) (a1 : List UInt8) (b2 : Int) (i15 : Int) :
  r01_letters_J2 lb n a1 b2 i15 =
 some (.bool ((a1.length : Int) == b2)) := (hold_eq _).trans (by kernel_rfl)

theorem r01_letters_L1_succ (lb : Bool) (n k11 : Nat) (a1 : List UInt8) (b2 : Int) (i6 : Int) :
  r01_letters_L1 lb n (k11 + 1) a1 b2 i6 =
 bif (decide (i6 < (a1.length : Int))) then
 (optO (atS a1 i6) fun c12 =>
 optO (C lb n F_r01_upper [.int .u8 (c12.toNat : Int)]) fun r13 =>
 optO (CV.asB r13) fun b14 =>
 bif (!b14) then
 (some (.bool false))
 else
 (r01_letters_L1 lb n k11 a1 b2 (IntKind.wrap .i64 (i6 + 1))))
 else
 (r01_letters_J2 lb n a1 b2 i6) := (hold_eq _).trans (by kernel_rfl)

theorem r01_letters_L1_zero (lb : Bool) (n : Nat) (a1 : List UInt8) (b2 : Int) (i6 : Int) :
  r01_letters_L1 lb n 0 a1 b2 i6 =
 none := (hold_eq _).trans (by kernel_rfl)

theorem r01_letters_eq (lb : Bool) (n : Nat) (a1 : List UInt8) (b2 : Int) :
  top lb n F_r01_letters [.str a1, .int .i64 b2] =
 r01_letters_L1 lb n n a1 b2 0 := by kernel_rfl

end Go.Proofs
