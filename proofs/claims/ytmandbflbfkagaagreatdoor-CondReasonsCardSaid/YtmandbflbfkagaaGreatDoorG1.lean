/- Equations of functions, printed by program. Conditions: none. -/
import Derived.Test.YtmandbflbfkagaaGreatDoorEv
namespace Go.Proofs
open Go.Am
set_option maxRecDepth 100000
set_option linter.unusedVariables false
/-! airline/airlineref01.Same -/
noncomputable def r01_Same_L1 (lb : Nat) (n : Nat) (k20 : Nat) (an1 : Bool) (a2 : List (List CV)) (bn3 : Bool) (b4 : List (List CV)) (i12 : Int) : Option CV :=
  hold (loopC (E0 lb n 0 994) 0 (loopTemps (sub (B F_r01_Same) [1, 1, 0, 1, 0, 0]) ++ []) [] (sub (B F_r01_Same) [1, 1, 0, 1, 0, 0]) (blockK 0 (seqK (E0 lb n 0 997) (sub (B F_r01_Same) [1, 1, 0]) (sub (B F_r01_Same) [1, 1, 1]) (retK Tryz.prog (R F_r01_Same) 0 (outK (tightF Tryz.prog F_r01_Same))))) k20 ⟨fr 26 [(0, .val (.list an1 a2)), (1, .val (.list bn3 b4)), (4, .val (.bool false)), (5, .val (.int .i64 i12))], [bx 26 []], KK⟩)

noncomputable def r01_Same_J2 (lb : Nat) (n : Nat) (an1 : Bool) (a2 : List (List CV)) (bn3 : Bool) (b4 : List (List CV)) (i27 : Int) : Option CV :=
  hold (E0 lb n 0 997 (sub (B F_r01_Same) [1, 1, 1]) (retK Tryz.prog (R F_r01_Same) 0 (outK (tightF Tryz.prog F_r01_Same))) ⟨fr 26 [(0, .val (.list an1 a2)), (1, .val (.list bn3 b4)), (4, .val (.bool false)), (5, .val (.int .i64 i27))], [bx 26 []], KK⟩)

theorem r01_Same_J2_eq (lb : Nat) (n : Nat) (an1 : Bool) (a2 : List (List CV)) (bn3 : Bool) (b4 : List (List CV)) (i27 : Int) :
  r01_Same_J2 lb n an1 a2 bn3 b4 i27 =
 some (.bool true) := (hold_eq _).trans (by kernel_rfl)

theorem r01_Same_L1_succ (lb : Nat) (n k20 : Nat) (an1 : Bool) (a2 : List (List CV)) (bn3 : Bool) (b4 : List (List CV)) (i12 : Int) :
  r01_Same_L1 lb n (k20 + 1) an1 a2 bn3 b4 i12 =
 bif (decide (i12 < (a2.length : Int))) then
 (optO (atL a2 i12) fun c21 =>
 chkO (c21.length == 1) (
 optO (c21[0]?) fun x22 =>
 optO (atL b4 i12) fun c23 =>
 chkO (c23.length == 1) (
 optO (c23[0]?) fun x24 =>
 optO (CV.asS x22) fun s25 =>
 optO (CV.asS x24) fun s26 =>
 bif (!(s25 == s26)) then
 (some (.bool false))
 else
 (r01_Same_L1 lb n k20 an1 a2 bn3 b4 (IntKind.wrap .i64 (i12 + 1))))))
 else
 (r01_Same_J2 lb n an1 a2 bn3 b4 i12) := (hold_eq _).trans (by kernel_rfl)

theorem r01_Same_L1_zero (lb : Nat) (n : Nat) (an1 : Bool) (a2 : List (List CV)) (bn3 : Bool) (b4 : List (List CV)) (i12 : Int) :
  r01_Same_L1 lb n 0 an1 a2 bn3 b4 i12 =
 none := (hold_eq _).trans (by kernel_rfl)

theorem r01_Same_eq (lb : Nat) (n : Nat) (an1 : Bool) (a2 : List (List CV)) (bn3 : Bool) (b4 : List (List CV)) :
  top lb n F_r01_Same [.list an1 a2, .list bn3 b4] =
 bif ((a2.length : Int) != (b4.length : Int)) then
 (some (.bool false))
 else
 (r01_Same_L1 lb n n an1 a2 bn3 b4 0) := by kernel_rfl

/-! airline/text.Decimal -/
theorem text_Decimal_eq (lb : Nat) (n : Nat) (a1 : Int) :
  top lb n F_text_Decimal [.int .i64 a1] =
 optO (C lb n F_strconv_Itoa [.int .i64 a1]) fun r2 =>
 some (r2) := by kernel_rfl

/-! airline/airlineref01.Decimal -/
theorem r01_Decimal_eq (lb : Nat) (n : Nat) (a1 : Int) :
  top lb n F_r01_Decimal [.int .i64 a1] =
 bif (decide (a1 < 0)) then
 (optO (C lb n F_r01_digits [.int .u64 (IntKind.wrap .u64 ((IntKind.wrap .u64 (IntKind.wrap .i64 (0 - (IntKind.wrap .i64 (a1 + 1))))) + 1))]) fun r2 =>
 optO (CV.asS r2) fun s3 =>
 chkO (decide (([45] : List UInt8).length + s3.length ≤ 9223372036854775807)) (
 some (.str (([45] : List UInt8) ++ s3))))
 else
 (optO (C lb n F_r01_digits [.int .u64 (IntKind.wrap .u64 (a1))]) fun r4 =>
 some (r4)) := by kernel_rfl

/-! airline/text.Carrier -/
theorem text_Carrier_eq (lb : Nat) (n : Nat) (a1 : List UInt8) :
  top lb n F_text_Carrier [.str a1] =
 optO (C lb n F_text_Code [.str a1, .int .i64 2, .int .i64 2]) fun r2 =>
 optO (CV.asB r2) fun b3 =>
 bif b3 then
 (optO (C lb n F_text_every [.str a1, .fn F_text_digit]) fun r4 =>
 optO (CV.asB r4) fun b5 =>
 some (.bool (!b5)))
 else
 (some (.bool false)) := by kernel_rfl

/-! airline/text.Airport -/
theorem text_Airport_eq (lb : Nat) (n : Nat) (a1 : List UInt8) :
  top lb n F_text_Airport [.str a1] =
 bif ((a1.length : Int) == 3) then
 (optO (C lb n F_text_every [.str a1, .fn F_text_capital]) fun r2 =>
 some (r2))
 else
 (some (.bool false)) := by kernel_rfl

/-! airline/airlineref01.digits -/
theorem r01_digits_eq (lb : Nat) (n : Nat) (a1 : Int) :
  top lb n F_r01_digits [.int .u64 a1] =
 bif (decide (a1 < 10)) then
 (chkO (decide ((0 : Int) ≤ (IntKind.wrap .u64 (a1 + 1)) ∧ (IntKind.wrap .u64 (a1 + 1)) ≤ 10)) (
 chkO (decide ((0 : Int) ≤ a1 ∧ a1 ≤ (IntKind.wrap .u64 (a1 + 1)))) (
 some (.str ((([48, 49, 50, 51, 52, 53, 54, 55, 56, 57] : List UInt8).take ((IntKind.wrap .u64 (a1 + 1)).toNat)).drop a1.toNat)))))
 else
 (optO (C lb n F_r01_digits [.int .u64 (IntKind.wrap .u64 (Int.tdiv a1 10))]) fun r2 =>
 chkO (decide ((0 : Int) ≤ (IntKind.wrap .u64 ((Int.tmod a1 10) + 1)) ∧ (IntKind.wrap .u64 ((Int.tmod a1 10) + 1)) ≤ 10)) (
 chkO (decide ((0 : Int) ≤ (Int.tmod a1 10) ∧ (Int.tmod a1 10) ≤ (IntKind.wrap .u64 ((Int.tmod a1 10) + 1)))) (
 optO (CV.asS r2) fun s3 =>
 chkO (decide (s3.length + ((([48, 49, 50, 51, 52, 53, 54, 55, 56, 57] : List UInt8).take ((IntKind.wrap .u64 ((Int.tmod a1 10) + 1)).toNat)).drop ((Int.tmod a1 10).toNat)).length ≤ 9223372036854775807)) (
 some (.str (s3 ++ ((([48, 49, 50, 51, 52, 53, 54, 55, 56, 57] : List UInt8).take ((IntKind.wrap .u64 ((Int.tmod a1 10) + 1)).toNat)).drop ((Int.tmod a1 10).toNat)))))))) := by kernel_rfl

/-! airline/airlineref01.Number -/
noncomputable def r01_Number_J1 (lb : Nat) (n : Nat) (a1 : List UInt8) (c2 : UInt8) (s3 : List UInt8) : Option CV :=
  hold (E0 lb n 0 996 (sub (B F_r01_Number) [1, 1, 1, 1]) (retK Tryz.prog (R F_r01_Number) 0 (outK (tightF Tryz.prog F_r01_Number))) ⟨fr 81 [(0, .val (.str a1)), (2, .val (.int .i64 0)), (3, .val (.int .i64 0)), (4, .val (.bool ((c2.toNat : Int) == 45))), (5, .val (.str s3)), (9, .val (.str a1)), (10, .val (.int .i64 (a1.length : Int))), (11, .val (.bool (decide ((a1.length : Int) > 0)))), (12, .val (.bool true)), (13, .val (.str a1)), (14, .val (.int .u8 (c2.toNat : Int))), (15, .val (.bool ((c2.toNat : Int) == 45))), (16, .val (.bool ((c2.toNat : Int) == 45))), (17, .val (.str a1))], [bx 81 []], KK⟩)

noncomputable def r01_Number_L2 (lb : Nat) (n : Nat) (k13 : Nat) (a1 : List UInt8) (c2 : UInt8) (s3 : List UInt8) (i9 : Int) : Option CV :=
  hold (loopC (E0 lb n 0 991) 0 (loopTemps (sub (B F_r01_Number) [1, 1, 1, 1, 1, 0, 1, 0, 0]) ++ []) [] (sub (B F_r01_Number) [1, 1, 1, 1, 1, 0, 1, 0, 0]) (blockK 0 (seqK (E0 lb n 0 994) (sub (B F_r01_Number) [1, 1, 1, 1, 1, 0]) (sub (B F_r01_Number) [1, 1, 1, 1, 1, 1]) (retK Tryz.prog (R F_r01_Number) 0 (outK (tightF Tryz.prog F_r01_Number))))) k13 ⟨fr 81 [(0, .val (.str a1)), (2, .val (.int .i64 0)), (3, .val (.int .i64 0)), (4, .val (.bool ((c2.toNat : Int) == 45))), (5, .val (.str s3)), (6, .val (.int .i64 i9)), (9, .val (.str a1)), (10, .val (.int .i64 (a1.length : Int))), (11, .val (.bool (decide ((a1.length : Int) > 0)))), (12, .val (.bool true)), (13, .val (.str a1)), (14, .val (.int .u8 (c2.toNat : Int))), (15, .val (.bool ((c2.toNat : Int) == 45))), (16, .val (.bool ((c2.toNat : Int) == 45))), (17, .val (.str a1))], [bx 81 []], KK⟩)

noncomputable def r01_Number_J3 (lb : Nat) (n : Nat) (a1 : List UInt8) (c2 : UInt8) (s3 : List UInt8) (i18 : Int) : Option CV :=
  hold (E0 lb n 0 994 (sub (B F_r01_Number) [1, 1, 1, 1, 1, 1]) (retK Tryz.prog (R F_r01_Number) 0 (outK (tightF Tryz.prog F_r01_Number))) ⟨fr 81 [(0, .val (.str a1)), (2, .val (.int .i64 0)), (3, .val (.int .i64 0)), (4, .val (.bool ((c2.toNat : Int) == 45))), (5, .val (.str s3)), (6, .val (.int .i64 i18)), (9, .val (.str a1)), (10, .val (.int .i64 (a1.length : Int))), (11, .val (.bool (decide ((a1.length : Int) > 0)))), (12, .val (.bool true)), (13, .val (.str a1)), (14, .val (.int .u8 (c2.toNat : Int))), (15, .val (.bool ((c2.toNat : Int) == 45))), (16, .val (.bool ((c2.toNat : Int) == 45))), (17, .val (.str a1))], [bx 81 []], KK⟩)

noncomputable def r01_Number_L4 (lb : Nat) (n : Nat) (k23 : Nat) (a1 : List UInt8) (c2 : UInt8) (s3 : List UInt8) (i18 : Int) (i20 : Int) (i21 : Int) : Option CV :=
  hold (loopC (E0 lb n 0 988) 0 (loopTemps (sub (B F_r01_Number) [1, 1, 1, 1, 1, 1, 1, 1, 0, 1, 0, 0]) ++ []) [] (sub (B F_r01_Number) [1, 1, 1, 1, 1, 1, 1, 1, 0, 1, 0, 0]) (blockK 2 (seqK (E0 lb n 0 991) (sub (B F_r01_Number) [1, 1, 1, 1, 1, 1, 1, 1, 0]) (sub (B F_r01_Number) [1, 1, 1, 1, 1, 1, 1, 1, 1]) (retK Tryz.prog (R F_r01_Number) 0 (outK (tightF Tryz.prog F_r01_Number))))) k23 ⟨fr 81 [(0, .val (.str a1)), (2, .val (.int .i64 0)), (3, .val (.int .i64 0)), (4, .val (.bool ((c2.toNat : Int) == 45))), (5, .val (.str s3)), (6, .val (.int .i64 i18)), (7, .val (.int .u64 i20)), (8, .val (.int .i64 i21)), (9, .val (.str a1)), (10, .val (.int .i64 (a1.length : Int))), (11, .val (.bool (decide ((a1.length : Int) > 0)))), (12, .val (.bool true)), (13, .val (.str a1)), (14, .val (.int .u8 (c2.toNat : Int))), (15, .val (.bool ((c2.toNat : Int) == 45))), (16, .val (.bool ((c2.toNat : Int) == 45))), (17, .val (.str a1))], [bx 81 []], KK⟩)

noncomputable def r01_Number_J5 (lb : Nat) (n : Nat) (a1 : List UInt8) (c2 : UInt8) (s3 : List UInt8) (i18 : Int) (i25 : Int) (i26 : Int) : Option CV :=
  hold (E0 lb n 0 991 (sub (B F_r01_Number) [1, 1, 1, 1, 1, 1, 1, 1, 1]) (retK Tryz.prog (R F_r01_Number) 0 (outK (tightF Tryz.prog F_r01_Number))) ⟨fr 81 [(0, .val (.str a1)), (2, .val (.int .i64 0)), (3, .val (.int .i64 0)), (4, .val (.bool ((c2.toNat : Int) == 45))), (5, .val (.str s3)), (6, .val (.int .i64 i18)), (7, .val (.int .u64 i25)), (8, .val (.int .i64 i26)), (9, .val (.str a1)), (10, .val (.int .i64 (a1.length : Int))), (11, .val (.bool (decide ((a1.length : Int) > 0)))), (12, .val (.bool true)), (13, .val (.str a1)), (14, .val (.int .u8 (c2.toNat : Int))), (15, .val (.bool ((c2.toNat : Int) == 45))), (16, .val (.bool ((c2.toNat : Int) == 45))), (17, .val (.str a1))], [bx 81 []], KK⟩)

theorem r01_Number_J5_eq (lb : Nat) (n : Nat) (a1 : List UInt8) (c2 : UInt8) (s3 : List UInt8) (i18 : Int) (i25 : Int) (i26 : Int) :
  r01_Number_J5 lb n a1 c2 s3 i18 i25 i26 =
 bif ((c2.toNat : Int) == 45) then
 (bif (decide (i25 ≤ 9223372036854775808)) then
 (some (.tup [.int .i64 (IntKind.wrap .i64 ((IntKind.wrap .i64 (0 - (IntKind.wrap .i64 (IntKind.wrap .u64 (i25 - 1))))) - 1)), .int .i64 0]))
 else
 (bif ((c2.toNat : Int) == 45) then
 (some (.tup [.int .i64 0, .int .i64 4]))
 else
 (bif (decide (i25 ≥ 9223372036854775808)) then
 (some (.tup [.int .i64 0, .int .i64 4]))
 else
 (some (.tup [.int .i64 (IntKind.wrap .i64 (i25)), .int .i64 0])))))
 else
 (bif ((c2.toNat : Int) == 45) then
 (some (.tup [.int .i64 0, .int .i64 4]))
 else
 (bif (decide (i25 ≥ 9223372036854775808)) then
 (some (.tup [.int .i64 0, .int .i64 4]))
 else
 (some (.tup [.int .i64 (IntKind.wrap .i64 (i25)), .int .i64 0])))) := (hold_eq _).trans (by kernel_rfl)

theorem r01_Number_L4_succ (lb : Nat) (n k23 : Nat) (a1 : List UInt8) (c2 : UInt8) (s3 : List UInt8) (i18 : Int) (i20 : Int) (i21 : Int) :
  r01_Number_L4 lb n (k23 + 1) a1 c2 s3 i18 i20 i21 =
 bif (decide (i21 < (s3.length : Int))) then
 (optO (atS s3 i21) fun c24 =>
 r01_Number_L4 lb n k23 a1 c2 s3 i18 (IntKind.wrap .u64 ((IntKind.wrap .u64 (10 * i20)) + (IntKind.wrap .u64 (IntKind.wrap .u8 ((c24.toNat : Int) - 48))))) (IntKind.wrap .i64 (i21 + 1)))
 else
 (r01_Number_J5 lb n a1 c2 s3 i18 i20 i21) := (hold_eq _).trans (by kernel_rfl)

theorem r01_Number_L4_zero (lb : Nat) (n : Nat) (a1 : List UInt8) (c2 : UInt8) (s3 : List UInt8) (i18 : Int) (i20 : Int) (i21 : Int) :
  r01_Number_L4 lb n 0 a1 c2 s3 i18 i20 i21 =
 none := (hold_eq _).trans (by kernel_rfl)

theorem r01_Number_J3_eq (lb : Nat) (n : Nat) (a1 : List UInt8) (c2 : UInt8) (s3 : List UInt8) (i18 : Int) :
  r01_Number_J3 lb n a1 c2 s3 i18 =
 bif (decide ((s3.length : Int) > 19)) then
 (some (.tup [.int .i64 0, .int .i64 4]))
 else
 (r01_Number_L4 lb n n a1 c2 s3 i18 0 0) := (hold_eq _).trans (by kernel_rfl)

theorem r01_Number_L2_succ (lb : Nat) (n k13 : Nat) (a1 : List UInt8) (c2 : UInt8) (s3 : List UInt8) (i9 : Int) :
  r01_Number_L2 lb n (k13 + 1) a1 c2 s3 i9 =
 bif (decide (i9 < (s3.length : Int))) then
 (optO (atS s3 i9) fun c14 =>
 optO (C lb n F_r01_digit [.int .u8 (c14.toNat : Int)]) fun r15 =>
 optO (CV.asB r15) fun b17 =>
 bif (!b17) then
 (some (.tup [.int .i64 0, .int .i64 3]))
 else
 (r01_Number_L2 lb n k13 a1 c2 s3 (IntKind.wrap .i64 (i9 + 1))))
 else
 (r01_Number_J3 lb n a1 c2 s3 i9) := (hold_eq _).trans (by kernel_rfl)

theorem r01_Number_L2_zero (lb : Nat) (n : Nat) (a1 : List UInt8) (c2 : UInt8) (s3 : List UInt8) (i9 : Int) :
  r01_Number_L2 lb n 0 a1 c2 s3 i9 =
 none := (hold_eq _).trans (by kernel_rfl)

theorem r01_Number_J1_eq (lb : Nat) (n : Nat) (a1 : List UInt8) (c2 : UInt8) (s3 : List UInt8) :
  r01_Number_J1 lb n a1 c2 s3 =
 bif (s3 == []) then
 (some (.tup [.int .i64 0, .int .i64 3]))
 else
 (optO (atS s3 0) fun c4 =>
 bif ((c4.toNat : Int) == 48) then
 (bif ((c2.toNat : Int) == 45) then
 (some (.tup [.int .i64 0, .int .i64 3]))
 else
 (bif (decide ((s3.length : Int) > 1)) then
 (some (.tup [.int .i64 0, .int .i64 3]))
 else
 (r01_Number_L2 lb n n a1 c2 s3 0)))
 else
 (r01_Number_L2 lb n n a1 c2 s3 0)) := (hold_eq _).trans (by kernel_rfl)

noncomputable def r01_Number_J6 (lb : Nat) (n : Nat) (a1 : List UInt8) : Option CV :=
  hold (E0 lb n 0 996 (sub (B F_r01_Number) [1, 1, 1, 1]) (retK Tryz.prog (R F_r01_Number) 0 (outK (tightF Tryz.prog F_r01_Number))) ⟨fr 81 [(0, .val (.str a1)), (2, .val (.int .i64 0)), (3, .val (.int .i64 0)), (4, .val (.bool false)), (5, .val (.str a1)), (9, .val (.str a1)), (10, .val (.int .i64 (a1.length : Int))), (11, .val (.bool (decide ((a1.length : Int) > 0)))), (12, .val (.bool false)), (13, .undef), (14, .undef), (15, .undef), (16, .val (.bool false)), (17, .val (.str a1))], [bx 81 []], KK⟩)

noncomputable def r01_Number_L7 (lb : Nat) (n : Nat) (k44 : Nat) (a1 : List UInt8) (i40 : Int) : Option CV :=
  hold (loopC (E0 lb n 0 991) 0 (loopTemps (sub (B F_r01_Number) [1, 1, 1, 1, 1, 0, 1, 0, 0]) ++ []) [] (sub (B F_r01_Number) [1, 1, 1, 1, 1, 0, 1, 0, 0]) (blockK 0 (seqK (E0 lb n 0 994) (sub (B F_r01_Number) [1, 1, 1, 1, 1, 0]) (sub (B F_r01_Number) [1, 1, 1, 1, 1, 1]) (retK Tryz.prog (R F_r01_Number) 0 (outK (tightF Tryz.prog F_r01_Number))))) k44 ⟨fr 81 [(0, .val (.str a1)), (2, .val (.int .i64 0)), (3, .val (.int .i64 0)), (4, .val (.bool false)), (5, .val (.str a1)), (6, .val (.int .i64 i40)), (9, .val (.str a1)), (10, .val (.int .i64 (a1.length : Int))), (11, .val (.bool (decide ((a1.length : Int) > 0)))), (12, .val (.bool false)), (13, .undef), (14, .undef), (15, .undef), (16, .val (.bool false)), (17, .val (.str a1))], [bx 81 []], KK⟩)

noncomputable def r01_Number_J8 (lb : Nat) (n : Nat) (a1 : List UInt8) (i48 : Int) : Option CV :=
  hold (E0 lb n 0 994 (sub (B F_r01_Number) [1, 1, 1, 1, 1, 1]) (retK Tryz.prog (R F_r01_Number) 0 (outK (tightF Tryz.prog F_r01_Number))) ⟨fr 81 [(0, .val (.str a1)), (2, .val (.int .i64 0)), (3, .val (.int .i64 0)), (4, .val (.bool false)), (5, .val (.str a1)), (6, .val (.int .i64 i48)), (9, .val (.str a1)), (10, .val (.int .i64 (a1.length : Int))), (11, .val (.bool (decide ((a1.length : Int) > 0)))), (12, .val (.bool false)), (13, .undef), (14, .undef), (15, .undef), (16, .val (.bool false)), (17, .val (.str a1))], [bx 81 []], KK⟩)

noncomputable def r01_Number_L9 (lb : Nat) (n : Nat) (k53 : Nat) (a1 : List UInt8) (i48 : Int) (i50 : Int) (i51 : Int) : Option CV :=
  hold (loopC (E0 lb n 0 988) 0 (loopTemps (sub (B F_r01_Number) [1, 1, 1, 1, 1, 1, 1, 1, 0, 1, 0, 0]) ++ []) [] (sub (B F_r01_Number) [1, 1, 1, 1, 1, 1, 1, 1, 0, 1, 0, 0]) (blockK 2 (seqK (E0 lb n 0 991) (sub (B F_r01_Number) [1, 1, 1, 1, 1, 1, 1, 1, 0]) (sub (B F_r01_Number) [1, 1, 1, 1, 1, 1, 1, 1, 1]) (retK Tryz.prog (R F_r01_Number) 0 (outK (tightF Tryz.prog F_r01_Number))))) k53 ⟨fr 81 [(0, .val (.str a1)), (2, .val (.int .i64 0)), (3, .val (.int .i64 0)), (4, .val (.bool false)), (5, .val (.str a1)), (6, .val (.int .i64 i48)), (7, .val (.int .u64 i50)), (8, .val (.int .i64 i51)), (9, .val (.str a1)), (10, .val (.int .i64 (a1.length : Int))), (11, .val (.bool (decide ((a1.length : Int) > 0)))), (12, .val (.bool false)), (13, .undef), (14, .undef), (15, .undef), (16, .val (.bool false)), (17, .val (.str a1))], [bx 81 []], KK⟩)

noncomputable def r01_Number_J10 (lb : Nat) (n : Nat) (a1 : List UInt8) (i48 : Int) (i55 : Int) (i56 : Int) : Option CV :=
  hold (E0 lb n 0 991 (sub (B F_r01_Number) [1, 1, 1, 1, 1, 1, 1, 1, 1]) (retK Tryz.prog (R F_r01_Number) 0 (outK (tightF Tryz.prog F_r01_Number))) ⟨fr 81 [(0, .val (.str a1)), (2, .val (.int .i64 0)), (3, .val (.int .i64 0)), (4, .val (.bool false)), (5, .val (.str a1)), (6, .val (.int .i64 i48)), (7, .val (.int .u64 i55)), (8, .val (.int .i64 i56)), (9, .val (.str a1)), (10, .val (.int .i64 (a1.length : Int))), (11, .val (.bool (decide ((a1.length : Int) > 0)))), (12, .val (.bool false)), (13, .undef), (14, .undef), (15, .undef), (16, .val (.bool false)), (17, .val (.str a1))], [bx 81 []], KK⟩)

theorem r01_Number_J10_eq (lb : Nat) (n : Nat) (a1 : List UInt8) (i48 : Int) (i55 : Int) (i56 : Int) :
  r01_Number_J10 lb n a1 i48 i55 i56 =
 bif (decide (i55 ≥ 9223372036854775808)) then
 (some (.tup [.int .i64 0, .int .i64 4]))
 else
 (some (.tup [.int .i64 (IntKind.wrap .i64 (i55)), .int .i64 0])) := (hold_eq _).trans (by kernel_rfl)

theorem r01_Number_L9_succ (lb : Nat) (n k53 : Nat) (a1 : List UInt8) (i48 : Int) (i50 : Int) (i51 : Int) :
  r01_Number_L9 lb n (k53 + 1) a1 i48 i50 i51 =
 bif (decide (i51 < (a1.length : Int))) then
 (optO (atS a1 i51) fun c54 =>
 r01_Number_L9 lb n k53 a1 i48 (IntKind.wrap .u64 ((IntKind.wrap .u64 (10 * i50)) + (IntKind.wrap .u64 (IntKind.wrap .u8 ((c54.toNat : Int) - 48))))) (IntKind.wrap .i64 (i51 + 1)))
 else
 (r01_Number_J10 lb n a1 i48 i50 i51) := (hold_eq _).trans (by kernel_rfl)

theorem r01_Number_L9_zero (lb : Nat) (n : Nat) (a1 : List UInt8) (i48 : Int) (i50 : Int) (i51 : Int) :
  r01_Number_L9 lb n 0 a1 i48 i50 i51 =
 none := (hold_eq _).trans (by kernel_rfl)

theorem r01_Number_J8_eq (lb : Nat) (n : Nat) (a1 : List UInt8) (i48 : Int) :
  r01_Number_J8 lb n a1 i48 =
 bif (decide ((a1.length : Int) > 19)) then
 (some (.tup [.int .i64 0, .int .i64 4]))
 else
 (r01_Number_L9 lb n n a1 i48 0 0) := (hold_eq _).trans (by kernel_rfl)

theorem r01_Number_L7_succ (lb : Nat) (n k44 : Nat) (a1 : List UInt8) (i40 : Int) :
  r01_Number_L7 lb n (k44 + 1) a1 i40 =
 bif (decide (i40 < (a1.length : Int))) then
 (optO (atS a1 i40) fun c45 =>
 optO (C lb n F_r01_digit [.int .u8 (c45.toNat : Int)]) fun r46 =>
 optO (CV.asB r46) fun b47 =>
 bif (!b47) then
 (some (.tup [.int .i64 0, .int .i64 3]))
 else
 (r01_Number_L7 lb n k44 a1 (IntKind.wrap .i64 (i40 + 1))))
 else
 (r01_Number_J8 lb n a1 i40) := (hold_eq _).trans (by kernel_rfl)

theorem r01_Number_L7_zero (lb : Nat) (n : Nat) (a1 : List UInt8) (i40 : Int) :
  r01_Number_L7 lb n 0 a1 i40 =
 none := (hold_eq _).trans (by kernel_rfl)

theorem r01_Number_J6_eq (lb : Nat) (n : Nat) (a1 : List UInt8) :
  r01_Number_J6 lb n a1 =
 bif (a1 == []) then
 (some (.tup [.int .i64 0, .int .i64 3]))
 else
 (optO (atS a1 0) fun c36 =>
 bif ((c36.toNat : Int) == 48) then
 (bif (decide ((a1.length : Int) > 1)) then
 (some (.tup [.int .i64 0, .int .i64 3]))
 else
 (r01_Number_L7 lb n n a1 0))
 else
 (r01_Number_L7 lb n n a1 0)) := (hold_eq _).trans (by kernel_rfl)

theorem r01_Number_eq (lb : Nat) (n : Nat) (a1 : List UInt8) :
  top lb n F_r01_Number [.str a1] =
 bif (decide ((a1.length : Int) > 0)) then
 (optO (atS a1 0) fun c2 =>
 bif ((c2.toNat : Int) == 45) then
 (chkO (decide ((0 : Int) ≤ 1 ∧ 1 ≤ (a1.length : Int))) (
 r01_Number_J1 lb n a1 c2 ((a1.take ((a1.length : Int).toNat)).drop 1)))
 else
 (r01_Number_J1 lb n a1 c2 a1))
 else
 (r01_Number_J6 lb n a1 ) := by kernel_rfl

/-! airline/airlineref01.Carrier -/
theorem r01_Carrier_eq (lb : Nat) (n : Nat) (a1 : List UInt8) :
  top lb n F_r01_Carrier [.str a1] =
 optO (C lb n F_r01_Code [.str a1, .int .i64 2, .int .i64 2]) fun r2 =>
 optO (CV.asB r2) fun b3 =>
 bif b3 then
 (optO (atS a1 0) fun c4 =>
 optO (C lb n F_r01_upper [.int .u8 (c4.toNat : Int)]) fun r5 =>
 optO (CV.asB r5) fun b6 =>
 bif b6 then
 (some (.bool true))
 else
 (optO (atS a1 1) fun c7 =>
 optO (C lb n F_r01_upper [.int .u8 (c7.toNat : Int)]) fun r9 =>
 some (r9)))
 else
 (some (.bool false)) := by kernel_rfl

/-! airline/airlineref01.Airport -/
theorem r01_Airport_eq (lb : Nat) (n : Nat) (a1 : List UInt8) :
  top lb n F_r01_Airport [.str a1] =
 optO (C lb n F_r01_letters [.str a1, .int .i64 3]) fun r2 =>
 some (r2) := by kernel_rfl

/-! airline/airlineref01.Code -/
noncomputable def r01_Code_L1 (lb : Nat) (n : Nat) (k20 : Nat) (a1 : List UInt8) (b2 : Int) (c3 : Int) (i12 : Int) : Option CV :=
  hold (loopC (E0 lb n 0 995) 0 (loopTemps (sub (B F_r01_Code) [1, 0, 1, 0, 0]) ++ []) [] (sub (B F_r01_Code) [1, 0, 1, 0, 0]) (blockK 0 (seqK (E0 lb n 0 998) (sub (B F_r01_Code) [1, 0]) (sub (B F_r01_Code) [1, 1]) (retK Tryz.prog (R F_r01_Code) 0 (outK (tightF Tryz.prog F_r01_Code))))) k20 ⟨fr 36 [(0, .val (.str a1)), (1, .val (.int .i64 b2)), (2, .val (.int .i64 c3)), (6, .val (.bool false)), (7, .val (.int .i64 i12))], [bx 36 []], KK⟩)

noncomputable def r01_Code_J2 (lb : Nat) (n : Nat) (a1 : List UInt8) (b2 : Int) (c3 : Int) (i27 : Int) : Option CV :=
  hold (E0 lb n 0 998 (sub (B F_r01_Code) [1, 1]) (retK Tryz.prog (R F_r01_Code) 0 (outK (tightF Tryz.prog F_r01_Code))) ⟨fr 36 [(0, .val (.str a1)), (1, .val (.int .i64 b2)), (2, .val (.int .i64 c3)), (6, .val (.bool false)), (7, .val (.int .i64 i27))], [bx 36 []], KK⟩)

theorem r01_Code_J2_eq (lb : Nat) (n : Nat) (a1 : List UInt8) (b2 : Int) (c3 : Int) (i27 : Int) :
  r01_Code_J2 lb n a1 b2 c3 i27 =
 bif (decide ((a1.length : Int) ≥ b2)) then
 (some (.bool (decide ((a1.length : Int) ≤ c3))))
 else
 (some (.bool false)) := (hold_eq _).trans (by kernel_rfl)

theorem r01_Code_L1_succ (lb : Nat) (n k20 : Nat) (a1 : List UInt8) (b2 : Int) (c3 : Int) (i12 : Int) :
  r01_Code_L1 lb n (k20 + 1) a1 b2 c3 i12 =
 bif (decide (i12 < (a1.length : Int))) then
 (optO (atS a1 i12) fun c21 =>
 optO (C lb n F_r01_upper [.int .u8 (c21.toNat : Int)]) fun r22 =>
 optO (CV.asB r22) fun b23 =>
 bif (!b23) then
 (optO (atS a1 i12) fun c24 =>
 optO (C lb n F_r01_digit [.int .u8 (c24.toNat : Int)]) fun r25 =>
 optO (CV.asB r25) fun b26 =>
 bif (!b26) then
 (some (.bool false))
 else
 (r01_Code_L1 lb n k20 a1 b2 c3 (IntKind.wrap .i64 (i12 + 1))))
 else
 (r01_Code_L1 lb n k20 a1 b2 c3 (IntKind.wrap .i64 (i12 + 1))))
 else
 (r01_Code_J2 lb n a1 b2 c3 i12) := (hold_eq _).trans (by kernel_rfl)

theorem r01_Code_L1_zero (lb : Nat) (n : Nat) (a1 : List UInt8) (b2 : Int) (c3 : Int) (i12 : Int) :
  r01_Code_L1 lb n 0 a1 b2 c3 i12 =
 none := (hold_eq _).trans (by kernel_rfl)

theorem r01_Code_eq (lb : Nat) (n : Nat) (a1 : List UInt8) (b2 : Int) (c3 : Int) :
  top lb n F_r01_Code [.str a1, .int .i64 b2, .int .i64 c3] =
 r01_Code_L1 lb n n a1 b2 c3 0 := by kernel_rfl

/-! airline/text.Code -/
theorem text_Code_eq (lb : Nat) (n : Nat) (a1 : List UInt8) (b2 : Int) (c3 : Int) :
  top lb n F_text_Code [.str a1, .int .i64 b2, .int .i64 c3] =
 bif (decide ((a1.length : Int) ≥ b2)) then
 (bif (decide ((a1.length : Int) ≤ c3)) then
 (optO (C lb n F_text_every [.str a1, .fn F_text_Code_1]) fun r4 =>
 some (r4))
 else
 (some (.bool false)))
 else
 (some (.bool false)) := by kernel_rfl

/-! airline/text.digit -/
theorem text_digit_eq (lb : Nat) (n : Nat) (a1 : Int) :
  top lb n F_text_digit [.int .u8 a1] =
 bif (decide (a1 ≥ 48)) then
 (some (.bool (decide (a1 ≤ 57))))
 else
 (some (.bool false)) := by kernel_rfl

/-! airline/text.capital -/
theorem text_capital_eq (lb : Nat) (n : Nat) (a1 : Int) :
  top lb n F_text_capital [.int .u8 a1] =
 bif (decide (a1 ≥ 65)) then
 (some (.bool (decide (a1 ≤ 90))))
 else
 (some (.bool false)) := by kernel_rfl

/-! airline/airlineref01.digit -/
theorem r01_digit_eq (lb : Nat) (n : Nat) (a1 : Int) :
  top lb n F_r01_digit [.int .u8 a1] =
 bif (decide (a1 ≥ 48)) then
 (some (.bool (decide (a1 ≤ 57))))
 else
 (some (.bool false)) := by kernel_rfl

/-! airline/airlineref01.upper -/
theorem r01_upper_eq (lb : Nat) (n : Nat) (a1 : Int) :
  top lb n F_r01_upper [.int .u8 a1] =
 bif (decide (a1 ≥ 65)) then
 (some (.bool (decide (a1 ≤ 90))))
 else
 (some (.bool false)) := by kernel_rfl

/-! airline/airlineref01.letters -/
noncomputable def r01_letters_L1 (lb : Nat) (n : Nat) (k11 : Nat) (a1 : List UInt8) (b2 : Int) (i6 : Int) : Option CV :=
  hold (loopC (E0 lb n 0 995) 0 (loopTemps (sub (B F_r01_letters) [1, 0, 1, 0, 0]) ++ []) [] (sub (B F_r01_letters) [1, 0, 1, 0, 0]) (blockK 0 (seqK (E0 lb n 0 998) (sub (B F_r01_letters) [1, 0]) (sub (B F_r01_letters) [1, 1]) (retK Tryz.prog (R F_r01_letters) 0 (outK (tightF Tryz.prog F_r01_letters))))) k11 ⟨fr 21 [(0, .val (.str a1)), (1, .val (.int .i64 b2)), (4, .val (.bool false)), (5, .val (.int .i64 i6))], [bx 21 []], KK⟩)

noncomputable def r01_letters_J2 (lb : Nat) (n : Nat) (a1 : List UInt8) (b2 : Int) (i15 : Int) : Option CV :=
  hold (E0 lb n 0 998 (sub (B F_r01_letters) [1, 1]) (retK Tryz.prog (R F_r01_letters) 0 (outK (tightF Tryz.prog F_r01_letters))) ⟨fr 21 [(0, .val (.str a1)), (1, .val (.int .i64 b2)), (4, .val (.bool false)), (5, .val (.int .i64 i15))], [bx 21 []], KK⟩)

theorem r01_letters_J2_eq (lb : Nat) (n : Nat) (a1 : List UInt8) (b2 : Int) (i15 : Int) :
  r01_letters_J2 lb n a1 b2 i15 =
 some (.bool ((a1.length : Int) == b2)) := (hold_eq _).trans (by kernel_rfl)

theorem r01_letters_L1_succ (lb : Nat) (n k11 : Nat) (a1 : List UInt8) (b2 : Int) (i6 : Int) :
  r01_letters_L1 lb n (k11 + 1) a1 b2 i6 =
 bif (decide (i6 < (a1.length : Int))) then
 (optO (atS a1 i6) fun c12 =>
 optO (C lb n F_r01_upper [.int .u8 (c12.toNat : Int)]) fun r13 =>
 optO (CV.asB r13) fun b14 =>
 bif (!b14) then
 (some (.bool false))
 else
 (r01_letters_L1 lb n k11 a1 b2 (IntKind.wrap .i64 (i6 + 1))))
 else
 (r01_letters_J2 lb n a1 b2 i6) := (hold_eq _).trans (by kernel_rfl)

theorem r01_letters_L1_zero (lb : Nat) (n : Nat) (a1 : List UInt8) (b2 : Int) (i6 : Int) :
  r01_letters_L1 lb n 0 a1 b2 i6 =
 none := (hold_eq _).trans (by kernel_rfl)

theorem r01_letters_eq (lb : Nat) (n : Nat) (a1 : List UInt8) (b2 : Int) :
  top lb n F_r01_letters [.str a1, .int .i64 b2] =
 r01_letters_L1 lb n n a1 b2 0 := by kernel_rfl

/-! airline/text.Code$1 -/
theorem text_Code_1_eq (lb : Nat) (n : Nat) (a1 : Int) :
  top lb n F_text_Code_1 [.int .u8 a1] =
 optO (C lb n F_text_capital [.int .u8 a1]) fun r2 =>
 optO (CV.asB r2) fun b3 =>
 bif b3 then
 (some (.bool true))
 else
 (optO (C lb n F_text_digit [.int .u8 a1]) fun r4 =>
 some (r4)) := by kernel_rfl

/-! airline/text.Number -/
theorem text_Number_eq (lb : Nat) (n : Nat) (a1 : List UInt8) :
  top lb n F_text_Number [.str a1] =
 optO (C lb n F_strings_TrimPrefix [.str a1, .str [45]]) fun r2 =>
 optO (CV.asS r2) fun s3 =>
 bif (s3 == []) then
 (some (.tup [.int .i64 0, .int .i64 3]))
 else
 (optO (C lb n F_text_every [r2, .fn F_text_digit]) fun r4 =>
 optO (CV.asB r4) fun b5 =>
 bif (!b5) then
 (some (.tup [.int .i64 0, .int .i64 3]))
 else
 (optO (CV.asS r2) fun s6 =>
 optO (atS s6 0) fun c7 =>
 bif ((c7.toNat : Int) == 48) then
 (bif (!(a1 == [48])) then
 (some (.tup [.int .i64 0, .int .i64 3]))
 else
 (optO (C lb n F_strconv_Atoi [.str a1]) fun r9 =>
 optO (CV.asT r9) fun t10 =>
 optO (t10[0]?) fun x11 =>
 optO (CV.asT r9) fun t12 =>
 optO (t12[1]?) fun x13 =>
 optO (CV.asE x13) fun e14 =>
 bif (!e14) then
 (some (.tup [.int .i64 0, .int .i64 4]))
 else
 (some (.tup [x11, .int .i64 0]))))
 else
 (optO (C lb n F_strconv_Atoi [.str a1]) fun r15 =>
 optO (CV.asT r15) fun t17 =>
 optO (t17[0]?) fun x18 =>
 optO (CV.asT r15) fun t19 =>
 optO (t19[1]?) fun x20 =>
 optO (CV.asE x20) fun e21 =>
 bif (!e21) then
 (some (.tup [.int .i64 0, .int .i64 4]))
 else
 (some (.tup [x18, .int .i64 0]))))) := by kernel_rfl

/-! airline/text.every -/
noncomputable def text_every_text_digit_L1 (lb : Nat) (n : Nat) (k10 : Nat) (a1 : List UInt8) (i5 : Int) : Option CV :=
  hold (loopC (E0 lb n 0 995) 0 (loopTemps (sub (B F_text_every) [1, 0, 1, 0, 0]) ++ [5]) [] (sub (B F_text_every) [1, 0, 1, 0, 0]) (blockK 0 (seqK (E0 lb n 0 998) (sub (B F_text_every) [1, 0]) (sub (B F_text_every) [1, 1]) (retK Tryz.prog (R F_text_every) 0 (outK (tightF Tryz.prog F_text_every))))) k10 ⟨fr 18 [(0, .val (.str a1)), (1, .val (.fn F_text_digit)), (4, .val (.bool false)), (6, .val (.str a1)), (7, .val (.int .i64 (a1.length : Int))), (8, .val (.int .i64 i5))], [bx 18 []], KK⟩)

noncomputable def text_every_text_digit_J2 (lb : Nat) (n : Nat) (a1 : List UInt8) : Option CV :=
  hold (E0 lb n 0 998 (sub (B F_text_every) [1, 1]) (retK Tryz.prog (R F_text_every) 0 (outK (tightF Tryz.prog F_text_every))) ⟨fr 18 [(0, .val (.str a1)), (1, .val (.fn F_text_digit)), (4, .val (.bool false))], [bx 18 []], KK⟩)

theorem text_every_text_digit_J2_eq (lb : Nat) (n : Nat) (a1 : List UInt8) :
  text_every_text_digit_J2 lb n a1 =
 some (.bool true) := (hold_eq _).trans (by kernel_rfl)

theorem text_every_text_digit_L1_succ (lb : Nat) (n k10 : Nat) (a1 : List UInt8) (i5 : Int) :
  text_every_text_digit_L1 lb n (k10 + 1) a1 i5 =
 bif (decide (i5 < (a1.length : Int))) then
 (optO (atS a1 i5) fun c11 =>
 optO (C lb n F_text_digit [.int .u8 (c11.toNat : Int)]) fun r12 =>
 optO (CV.asB r12) fun b13 =>
 bif (!b13) then
 (some (.bool false))
 else
 (text_every_text_digit_L1 lb n k10 a1 (IntKind.wrap .i64 (i5 + 1))))
 else
 (text_every_text_digit_J2 lb n a1 ) := (hold_eq _).trans (by kernel_rfl)

theorem text_every_text_digit_L1_zero (lb : Nat) (n : Nat) (a1 : List UInt8) (i5 : Int) :
  text_every_text_digit_L1 lb n 0 a1 i5 =
 none := (hold_eq _).trans (by kernel_rfl)

theorem text_every_text_digit_eq (lb : Nat) (n : Nat) (a1 : List UInt8) :
  top lb n F_text_every [.str a1, .fn F_text_digit] =
 text_every_text_digit_L1 lb n n a1 0 := by kernel_rfl

/-! airline/text.every -/
noncomputable def text_every_text_capital_L1 (lb : Nat) (n : Nat) (k10 : Nat) (a1 : List UInt8) (i5 : Int) : Option CV :=
  hold (loopC (E0 lb n 0 995) 0 (loopTemps (sub (B F_text_every) [1, 0, 1, 0, 0]) ++ [5]) [] (sub (B F_text_every) [1, 0, 1, 0, 0]) (blockK 0 (seqK (E0 lb n 0 998) (sub (B F_text_every) [1, 0]) (sub (B F_text_every) [1, 1]) (retK Tryz.prog (R F_text_every) 0 (outK (tightF Tryz.prog F_text_every))))) k10 ⟨fr 18 [(0, .val (.str a1)), (1, .val (.fn F_text_capital)), (4, .val (.bool false)), (6, .val (.str a1)), (7, .val (.int .i64 (a1.length : Int))), (8, .val (.int .i64 i5))], [bx 18 []], KK⟩)

noncomputable def text_every_text_capital_J2 (lb : Nat) (n : Nat) (a1 : List UInt8) : Option CV :=
  hold (E0 lb n 0 998 (sub (B F_text_every) [1, 1]) (retK Tryz.prog (R F_text_every) 0 (outK (tightF Tryz.prog F_text_every))) ⟨fr 18 [(0, .val (.str a1)), (1, .val (.fn F_text_capital)), (4, .val (.bool false))], [bx 18 []], KK⟩)

theorem text_every_text_capital_J2_eq (lb : Nat) (n : Nat) (a1 : List UInt8) :
  text_every_text_capital_J2 lb n a1 =
 some (.bool true) := (hold_eq _).trans (by kernel_rfl)

theorem text_every_text_capital_L1_succ (lb : Nat) (n k10 : Nat) (a1 : List UInt8) (i5 : Int) :
  text_every_text_capital_L1 lb n (k10 + 1) a1 i5 =
 bif (decide (i5 < (a1.length : Int))) then
 (optO (atS a1 i5) fun c11 =>
 optO (C lb n F_text_capital [.int .u8 (c11.toNat : Int)]) fun r12 =>
 optO (CV.asB r12) fun b13 =>
 bif (!b13) then
 (some (.bool false))
 else
 (text_every_text_capital_L1 lb n k10 a1 (IntKind.wrap .i64 (i5 + 1))))
 else
 (text_every_text_capital_J2 lb n a1 ) := (hold_eq _).trans (by kernel_rfl)

theorem text_every_text_capital_L1_zero (lb : Nat) (n : Nat) (a1 : List UInt8) (i5 : Int) :
  text_every_text_capital_L1 lb n 0 a1 i5 =
 none := (hold_eq _).trans (by kernel_rfl)

theorem text_every_text_capital_eq (lb : Nat) (n : Nat) (a1 : List UInt8) :
  top lb n F_text_every [.str a1, .fn F_text_capital] =
 text_every_text_capital_L1 lb n n a1 0 := by kernel_rfl

/-! airline/text.every -/
noncomputable def text_every_text_Code_1_L1 (lb : Nat) (n : Nat) (k10 : Nat) (a1 : List UInt8) (i5 : Int) : Option CV :=
  hold (loopC (E0 lb n 0 995) 0 (loopTemps (sub (B F_text_every) [1, 0, 1, 0, 0]) ++ [5]) [] (sub (B F_text_every) [1, 0, 1, 0, 0]) (blockK 0 (seqK (E0 lb n 0 998) (sub (B F_text_every) [1, 0]) (sub (B F_text_every) [1, 1]) (retK Tryz.prog (R F_text_every) 0 (outK (tightF Tryz.prog F_text_every))))) k10 ⟨fr 18 [(0, .val (.str a1)), (1, .val (.fn F_text_Code_1)), (4, .val (.bool false)), (6, .val (.str a1)), (7, .val (.int .i64 (a1.length : Int))), (8, .val (.int .i64 i5))], [bx 18 []], KK⟩)

noncomputable def text_every_text_Code_1_J2 (lb : Nat) (n : Nat) (a1 : List UInt8) : Option CV :=
  hold (E0 lb n 0 998 (sub (B F_text_every) [1, 1]) (retK Tryz.prog (R F_text_every) 0 (outK (tightF Tryz.prog F_text_every))) ⟨fr 18 [(0, .val (.str a1)), (1, .val (.fn F_text_Code_1)), (4, .val (.bool false))], [bx 18 []], KK⟩)

theorem text_every_text_Code_1_J2_eq (lb : Nat) (n : Nat) (a1 : List UInt8) :
  text_every_text_Code_1_J2 lb n a1 =
 some (.bool true) := (hold_eq _).trans (by kernel_rfl)

theorem text_every_text_Code_1_L1_succ (lb : Nat) (n k10 : Nat) (a1 : List UInt8) (i5 : Int) :
  text_every_text_Code_1_L1 lb n (k10 + 1) a1 i5 =
 bif (decide (i5 < (a1.length : Int))) then
 (optO (atS a1 i5) fun c11 =>
 optO (C lb n F_text_Code_1 [.int .u8 (c11.toNat : Int)]) fun r12 =>
 optO (CV.asB r12) fun b13 =>
 bif (!b13) then
 (some (.bool false))
 else
 (text_every_text_Code_1_L1 lb n k10 a1 (IntKind.wrap .i64 (i5 + 1))))
 else
 (text_every_text_Code_1_J2 lb n a1 ) := (hold_eq _).trans (by kernel_rfl)

theorem text_every_text_Code_1_L1_zero (lb : Nat) (n : Nat) (a1 : List UInt8) (i5 : Int) :
  text_every_text_Code_1_L1 lb n 0 a1 i5 =
 none := (hold_eq _).trans (by kernel_rfl)

theorem text_every_text_Code_1_eq (lb : Nat) (n : Nat) (a1 : List UInt8) :
  top lb n F_text_every [.str a1, .fn F_text_Code_1] =
 text_every_text_Code_1_L1 lb n n a1 0 := by kernel_rfl

end Go.Proofs
