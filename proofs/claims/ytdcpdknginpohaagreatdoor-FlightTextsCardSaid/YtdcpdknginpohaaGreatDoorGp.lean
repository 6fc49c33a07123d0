/- Equations of functions, printed by program. Conditions: none. -/
import Derived.Test.YtdcpdknginpohaaGreatDoorEv
namespace Go.Proofs
open Go.Am
set_option maxRecDepth 100000
set_option linter.unusedVariables false
/-! airline/calendar.Parse -/
theorem calendar_Parse_eq (lb : Nat) (n : Nat) (a1 : List UInt8) :
  top lb n F_calendar_Parse [.str a1] =
 bif ((a1.length : Int) != 10) then
 (some (.tup [.int .i64 0, .int .i64 3]))
 else
 (optO (atS a1 4) fun c2 =>
 bif ((c2.toNat : Int) != 45) then
 (some (.tup [.int .i64 0, .int .i64 3]))
 else
 (optO (atS a1 7) fun c3 =>
 bif ((c3.toNat : Int) != 45) then
 (some (.tup [.int .i64 0, .int .i64 3]))
 else
 (chkO (decide ((0 : Int) ≤ 4 ∧ 4 ≤ (a1.length : Int))) (
 optO (C lb n F_calendar_digits [.str ((a1.take 4).drop 0)]) fun r4 =>
 optO (CV.asT r4) fun t5 =>
 optO (t5[0]?) fun x6 =>
 optO (CV.asT r4) fun t7 =>
 optO (t7[1]?) fun x9 =>
 chkO (decide ((0 : Int) ≤ 7 ∧ 7 ≤ (a1.length : Int))) (
 optO (C lb n F_calendar_digits [.str ((a1.take 7).drop 5)]) fun r10 =>
 optO (CV.asT r10) fun t11 =>
 optO (t11[0]?) fun x12 =>
 optO (CV.asT r10) fun t13 =>
 optO (t13[1]?) fun x14 =>
 chkO (decide ((0 : Int) ≤ 8 ∧ 8 ≤ (a1.length : Int))) (
 optO (C lb n F_calendar_digits [.str ((a1.take ((a1.length : Int).toNat)).drop 8)]) fun r15 =>
 optO (CV.asT r15) fun t17 =>
 optO (t17[0]?) fun x18 =>
 optO (CV.asT r15) fun t19 =>
 optO (t19[1]?) fun x20 =>
 optO (CV.asB x9) fun b21 =>
 bif (!b21) then
 (some (.tup [.int .i64 0, .int .i64 3]))
 else
 (optO (CV.asB x14) fun b22 =>
 bif (!b22) then
 (some (.tup [.int .i64 0, .int .i64 3]))
 else
 (optO (CV.asB x20) fun b23 =>
 bif (!b23) then
 (some (.tup [.int .i64 0, .int .i64 3]))
 else
 (optO (C lb n F_calendar_Day [x6, x12, x18]) fun r24 =>
 optO (CV.asT r24) fun t25 =>
 optO (t25[0]?) fun x26 =>
 optO (CV.asT r24) fun t27 =>
 optO (t27[1]?) fun x28 =>
 some (.tup [x26, x28])))))))))) := by kernel_rfl

/-! airline/calendar.digits -/
noncomputable def calendar_digits_L1 (lb : Nat) (n : Nat) (k11 : Nat) (a1 : List UInt8) (i5 : Int) (i6 : Int) : Option CV :=
  hold (loopC (E0 lb n 0 994) 0 (loopTemps (sub (B F_calendar_digits) [1, 1, 0, 1, 0, 0]) ++ [5]) [] (sub (B F_calendar_digits) [1, 1, 0, 1, 0, 0]) (blockK 0 (seqK (E0 lb n 0 997) (sub (B F_calendar_digits) [1, 1, 0]) (sub (B F_calendar_digits) [1, 1, 1]) (retK Tryz.prog (R F_calendar_digits) 0 (outK (tightF Tryz.prog F_calendar_digits))))) k11 ⟨fr 31 [(0, .val (.str a1)), (2, .val (.int .i64 0)), (3, .val (.bool false)), (4, .val (.int .i64 i5)), (6, .val (.str a1)), (7, .val (.int .i64 (a1.length : Int))), (8, .val (.int .i64 i6))], [bx 31 []], KK⟩)

noncomputable def calendar_digits_J2 (lb : Nat) (n : Nat) (a1 : List UInt8) (i15 : Int) : Option CV :=
  hold (E0 lb n 0 997 (sub (B F_calendar_digits) [1, 1, 1]) (retK Tryz.prog (R F_calendar_digits) 0 (outK (tightF Tryz.prog F_calendar_digits))) ⟨fr 31 [(0, .val (.str a1)), (2, .val (.int .i64 0)), (3, .val (.bool false)), (4, .val (.int .i64 i15))], [bx 31 []], KK⟩)

theorem calendar_digits_J2_eq (lb : Nat) (n : Nat) (a1 : List UInt8) (i15 : Int) :
  calendar_digits_J2 lb n a1 i15 =
 some (.tup [.int .i64 i15, .bool true]) := (hold_eq _).trans (by kernel_rfl)

theorem calendar_digits_L1_succ (lb : Nat) (n k11 : Nat) (a1 : List UInt8) (i5 : Int) (i6 : Int) :
  calendar_digits_L1 lb n (k11 + 1) a1 i5 i6 =
 bif (decide (i6 < (a1.length : Int))) then
 (optO (atS a1 i6) fun c12 =>
 bif (decide ((c12.toNat : Int) < 48)) then
 (some (.tup [.int .i64 0, .bool false]))
 else
 (optO (atS a1 i6) fun c13 =>
 bif (decide ((c13.toNat : Int) > 57)) then
 (some (.tup [.int .i64 0, .bool false]))
 else
 (optO (atS a1 i6) fun c14 =>
 calendar_digits_L1 lb n k11 a1 (IntKind.wrap .i64 ((IntKind.wrap .i64 (10 * i5)) + (IntKind.wrap .i64 (IntKind.wrap .u8 ((c14.toNat : Int) - 48))))) (IntKind.wrap .i64 (i6 + 1)))))
 else
 (calendar_digits_J2 lb n a1 i5) := (hold_eq _).trans (by kernel_rfl)

theorem calendar_digits_eq (lb : Nat) (n : Nat) (a1 : List UInt8) :
  top lb n F_calendar_digits [.str a1] =
 calendar_digits_L1 lb n n a1 0 0 := by kernel_rfl

/-! airline/calendar.Day -/
noncomputable def calendar_Day_L1 (lb : Nat) (n : Nat) (k15 : Nat) (a1 : Int) (b2 : Int) (c3 : Int) (r6 : CV) (i7 : Int) (i11 : Int) (i12 : Int) : Option CV :=
  hold (loopC (E0 lb n 0 993) 0 (loopTemps (sub (B F_calendar_Day) [1, 1, 1, 0, 1, 0, 0]) ++ [9]) [] (sub (B F_calendar_Day) [1, 1, 1, 0, 1, 0, 0]) (blockK 0 (seqK (E0 lb n 0 996) (sub (B F_calendar_Day) [1, 1, 1, 0]) (sub (B F_calendar_Day) [1, 1, 1, 1]) (retK Tryz.prog (R F_calendar_Day) 0 (outK (tightF Tryz.prog F_calendar_Day))))) k15 ⟨fr 53 [(0, .val (.int .i64 a1)), (1, .val (.int .i64 b2)), (2, .val (.int .i64 c3)), (6, .val (.int .i64 0)), (7, .val (.int .i64 0)), (8, .val (.int .i64 i11)), (35, .val (.int .i64 a1)), (36, .val r6), (37, .val (.int .i64 c3)), (38, .val (.int .i64 (IntKind.wrap .i64 (i7 + c3)))), (39, .val (.int .i64 (IntKind.wrap .i64 ((IntKind.wrap .i64 (i7 + c3)) - 1)))), (40, .val (.int .i64 b2)), (41, .val (.int .i64 (IntKind.wrap .i64 (b2 - 1)))), (42, .val (.int .i64 i12))], [bx 53 []], KK⟩)

noncomputable def calendar_Day_J2 (lb : Nat) (n : Nat) (a1 : Int) (b2 : Int) (c3 : Int) (r6 : CV) (i7 : Int) (i19 : Int) : Option CV :=
  hold (E0 lb n 0 996 (sub (B F_calendar_Day) [1, 1, 1, 1]) (retK Tryz.prog (R F_calendar_Day) 0 (outK (tightF Tryz.prog F_calendar_Day))) ⟨fr 53 [(0, .val (.int .i64 a1)), (1, .val (.int .i64 b2)), (2, .val (.int .i64 c3)), (6, .val (.int .i64 0)), (7, .val (.int .i64 0)), (8, .val (.int .i64 i19)), (35, .val (.int .i64 a1)), (36, .val r6), (37, .val (.int .i64 c3)), (38, .val (.int .i64 (IntKind.wrap .i64 (i7 + c3)))), (39, .val (.int .i64 (IntKind.wrap .i64 ((IntKind.wrap .i64 (i7 + c3)) - 1))))], [bx 53 []], KK⟩)

theorem calendar_Day_J2_eq (lb : Nat) (n : Nat) (a1 : Int) (b2 : Int) (c3 : Int) (r6 : CV) (i7 : Int) (i19 : Int) :
  calendar_Day_J2 lb n a1 b2 c3 r6 i7 i19 =
 some (.tup [.int .i64 i19, .int .i64 0]) := (hold_eq _).trans (by kernel_rfl)

theorem calendar_Day_L1_succ (lb : Nat) (n k15 : Nat) (a1 : Int) (b2 : Int) (c3 : Int) (r6 : CV) (i7 : Int) (i11 : Int) (i12 : Int) :
  calendar_Day_L1 lb n (k15 + 1) a1 b2 c3 r6 i7 i11 i12 =
 bif (decide (i12 < (IntKind.wrap .i64 (b2 - 1)))) then
 (optO (C lb n F_calendar_length [.int .i64 a1, .int .i64 (IntKind.wrap .i64 (i12 + 1))]) fun r17 =>
 optO (CV.asI .i64 r17) fun i18 =>
 calendar_Day_L1 lb n k15 a1 b2 c3 r6 i7 (IntKind.wrap .i64 (i11 + i18)) (IntKind.wrap .i64 (i12 + 1)))
 else
 (calendar_Day_J2 lb n a1 b2 c3 r6 i7 i11) := (hold_eq _).trans (by kernel_rfl)

theorem calendar_Day_eq (lb : Nat) (n : Nat) (a1 : Int) (b2 : Int) (c3 : Int) :
  top lb n F_calendar_Day [.int .i64 a1, .int .i64 b2, .int .i64 c3] =
 bif (decide (a1 < 2000)) then
 (some (.tup [.int .i64 0, .int .i64 12]))
 else
 (bif (decide (a1 > 2099)) then
 (some (.tup [.int .i64 0, .int .i64 12]))
 else
 (bif (decide (b2 < 1)) then
 (some (.tup [.int .i64 0, .int .i64 12]))
 else
 (bif (decide (b2 > 12)) then
 (some (.tup [.int .i64 0, .int .i64 12]))
 else
 (bif (decide (c3 < 1)) then
 (some (.tup [.int .i64 0, .int .i64 12]))
 else
 (optO (C lb n F_calendar_length [.int .i64 a1, .int .i64 b2]) fun r4 =>
 optO (CV.asI .i64 r4) fun i5 =>
 bif (decide (c3 > i5)) then
 (some (.tup [.int .i64 0, .int .i64 12]))
 else
 (optO (C lb n F_calendar_first [.int .i64 a1]) fun r6 =>
 optO (CV.asI .i64 r6) fun i7 =>
 calendar_Day_L1 lb n n a1 b2 c3 r6 i7 (IntKind.wrap .i64 ((IntKind.wrap .i64 (i7 + c3)) - 1)) 0)))))) := by kernel_rfl

/-! airline/airlineref03.Parse -/
theorem r03_Parse_eq (lb : Nat) (n : Nat) (a1 : List UInt8) :
  top lb n F_r03_Parse [.str a1] =
 bif ((a1.length : Int) != 10) then
 (some (.tup [.int .i64 0, .int .i64 3]))
 else
 (optO (atS a1 4) fun c2 =>
 bif ((c2.toNat : Int) != 45) then
 (some (.tup [.int .i64 0, .int .i64 3]))
 else
 (optO (atS a1 7) fun c3 =>
 bif ((c3.toNat : Int) != 45) then
 (some (.tup [.int .i64 0, .int .i64 3]))
 else
 (optO (C lb n F_r03_digits [.str a1, .int .i64 0, .int .i64 4]) fun r4 =>
 optO (C lb n F_r03_digits [.str a1, .int .i64 5, .int .i64 2]) fun r5 =>
 optO (C lb n F_r03_digits [.str a1, .int .i64 8, .int .i64 2]) fun r6 =>
 optO (CV.asI .i64 r4) fun i7 =>
 bif (decide (i7 < 0)) then
 (some (.tup [.int .i64 0, .int .i64 3]))
 else
 (optO (CV.asI .i64 r5) fun i9 =>
 bif (decide (i9 < 0)) then
 (some (.tup [.int .i64 0, .int .i64 3]))
 else
 (optO (CV.asI .i64 r6) fun i10 =>
 bif (decide (i10 < 0)) then
 (some (.tup [.int .i64 0, .int .i64 3]))
 else
 (optO (C lb n F_r03_Day [r4, r5, r6]) fun r11 =>
 optO (CV.asT r11) fun t12 =>
 optO (t12[0]?) fun x13 =>
 optO (CV.asT r11) fun t14 =>
 optO (t14[1]?) fun x15 =>
 some (.tup [x13, x15]))))))) := by kernel_rfl

/-! airline/airlineref03.digits -/
noncomputable def r03_digits_L1 (lb : Nat) (n : Nat) (k13 : Nat) (a1 : List UInt8) (b2 : Int) (c3 : Int) (i7 : Int) (i9 : Int) : Option CV :=
  hold (loopC (E0 lb n 0 994) 0 (loopTemps (sub (B F_r03_digits) [1, 1, 0, 1, 0, 0]) ++ []) [] (sub (B F_r03_digits) [1, 1, 0, 1, 0, 0]) (blockK 0 (seqK (E0 lb n 0 997) (sub (B F_r03_digits) [1, 1, 0]) (sub (B F_r03_digits) [1, 1, 1]) (retK Tryz.prog (R F_r03_digits) 0 (outK (tightF Tryz.prog F_r03_digits))))) k13 ⟨fr 36 [(0, .val (.str a1)), (1, .val (.int .i64 b2)), (2, .val (.int .i64 c3)), (6, .val (.int .i64 0)), (7, .val (.int .i64 i7)), (8, .val (.int .i64 i9)), (9, .val (.int .i64 b2))], [bx 36 []], KK⟩)

noncomputable def r03_digits_J2 (lb : Nat) (n : Nat) (a1 : List UInt8) (b2 : Int) (c3 : Int) (i18 : Int) (i19 : Int) : Option CV :=
  hold (E0 lb n 0 997 (sub (B F_r03_digits) [1, 1, 1]) (retK Tryz.prog (R F_r03_digits) 0 (outK (tightF Tryz.prog F_r03_digits))) ⟨fr 36 [(0, .val (.str a1)), (1, .val (.int .i64 b2)), (2, .val (.int .i64 c3)), (6, .val (.int .i64 0)), (7, .val (.int .i64 i18)), (8, .val (.int .i64 i19))], [bx 36 []], KK⟩)

theorem r03_digits_J2_eq (lb : Nat) (n : Nat) (a1 : List UInt8) (b2 : Int) (c3 : Int) (i18 : Int) (i19 : Int) :
  r03_digits_J2 lb n a1 b2 c3 i18 i19 =
 some (.int .i64 i18) := (hold_eq _).trans (by kernel_rfl)

theorem r03_digits_L1_succ (lb : Nat) (n k13 : Nat) (a1 : List UInt8) (b2 : Int) (c3 : Int) (i7 : Int) (i9 : Int) :
  r03_digits_L1 lb n (k13 + 1) a1 b2 c3 i7 i9 =
 bif (decide (i9 < (IntKind.wrap .i64 (b2 + c3)))) then
 (optO (atS a1 i9) fun c14 =>
 bif (decide ((c14.toNat : Int) < 48)) then
 (some (.int .i64 (-1)))
 else
 (optO (atS a1 i9) fun c15 =>
 bif (decide ((c15.toNat : Int) > 57)) then
 (some (.int .i64 (-1)))
 else
 (optO (atS a1 i9) fun c17 =>
 r03_digits_L1 lb n k13 a1 b2 c3 (IntKind.wrap .i64 ((IntKind.wrap .i64 (10 * i7)) + (IntKind.wrap .i64 (IntKind.wrap .u8 ((c17.toNat : Int) - 48))))) (IntKind.wrap .i64 (i9 + 1)))))
 else
 (r03_digits_J2 lb n a1 b2 c3 i7 i9) := (hold_eq _).trans (by kernel_rfl)

theorem r03_digits_eq (lb : Nat) (n : Nat) (a1 : List UInt8) (b2 : Int) (c3 : Int) :
  top lb n F_r03_digits [.str a1, .int .i64 b2, .int .i64 c3] =
 r03_digits_L1 lb n n a1 b2 c3 0 b2 := by kernel_rfl

/-! airline/airlineref03.Day -/
noncomputable def r03_Day_L1 (lb : Nat) (n : Nat) (k26 : Nat) (a1 : Int) (b2 : Int) (c3 : Int) (i15 : Int) (i17 : Int) : Option CV :=
  hold (loopC (E0 lb n 0 993) 0 (loopTemps (sub (B F_r03_Day) [1, 1, 1, 0, 1, 0, 0]) ++ [10, 10]) [] (sub (B F_r03_Day) [1, 1, 1, 0, 1, 0, 0]) (blockK 0 (seqK (E0 lb n 0 996) (sub (B F_r03_Day) [1, 1, 1, 0]) (sub (B F_r03_Day) [1, 1, 1, 1]) (retK Tryz.prog (R F_r03_Day) 0 (outK (tightF Tryz.prog F_r03_Day))))) k26 ⟨fr 64 [(0, .val (.int .i64 a1)), (1, .val (.int .i64 b2)), (2, .val (.int .i64 c3)), (6, .val (.int .i64 0)), (7, .val (.int .i64 0)), (8, .val (.int .i64 i15)), (9, .val (.int .i64 i17)), (37, .val (.int .i64 c3)), (38, .val (.int .i64 (IntKind.wrap .i64 (c3 - 1))))], [bx 64 []], KK⟩)

noncomputable def r03_Day_L2 (lb : Nat) (n : Nat) (k34 : Nat) (k26 : Nat) (a1 : Int) (b2 : Int) (c3 : Int) (i17 : Int) (i29 : Int) (i30 : Int) : Option CV :=
  hold (loopC (E0 lb n 0 987) 0 (loopTemps (sub (B F_r03_Day) [1, 1, 1, 0, 1, 0, 0, 1, 0, 0, 1, 0, 0]) ++ []) [] (sub (B F_r03_Day) [1, 1, 1, 0, 1, 0, 0, 1, 0, 0, 1, 0, 0]) (blockK 2 (blockK 1 (seqK (E0 lb n 0 991) (sub (B F_r03_Day) [1, 1, 1, 0, 1, 0, 0, 1, 0]) (sub (B F_r03_Day) [1, 1, 1, 0, 1, 0, 0, 1, 1]) (loopK 0 (loopTemps (sub (B F_r03_Day) [1, 1, 1, 0, 1, 0, 0]) ++ [10, 10]) [] (loopC (E0 lb n 0 993) 0 (loopTemps (sub (B F_r03_Day) [1, 1, 1, 0, 1, 0, 0]) ++ [10, 10]) [] (sub (B F_r03_Day) [1, 1, 1, 0, 1, 0, 0]) (blockK 0 (seqK (E0 lb n 0 996) (sub (B F_r03_Day) [1, 1, 1, 0]) (sub (B F_r03_Day) [1, 1, 1, 1]) (retK Tryz.prog (R F_r03_Day) 0 (outK (tightF Tryz.prog F_r03_Day))))) k26) (blockK 0 (seqK (E0 lb n 0 996) (sub (B F_r03_Day) [1, 1, 1, 0]) (sub (B F_r03_Day) [1, 1, 1, 1]) (retK Tryz.prog (R F_r03_Day) 0 (outK (tightF Tryz.prog F_r03_Day))))))))) k34 ⟨fr 64 [(0, .val (.int .i64 a1)), (1, .val (.int .i64 b2)), (2, .val (.int .i64 c3)), (6, .val (.int .i64 0)), (7, .val (.int .i64 0)), (8, .val (.int .i64 i29)), (9, .val (.int .i64 i17)), (10, .val (.int .i64 i30)), (37, .val (.int .i64 c3)), (38, .val (.int .i64 (IntKind.wrap .i64 (c3 - 1))))], [bx 64 []], KK⟩)

noncomputable def r03_Day_J3 (lb : Nat) (n : Nat) (k26 : Nat) (a1 : Int) (b2 : Int) (c3 : Int) (i17 : Int) (i37 : Int) (i38 : Int) : Option CV :=
  hold (E0 lb n 0 991 (sub (B F_r03_Day) [1, 1, 1, 0, 1, 0, 0, 1, 1]) (loopK 0 (loopTemps (sub (B F_r03_Day) [1, 1, 1, 0, 1, 0, 0]) ++ [10, 10]) [] (loopC (E0 lb n 0 993) 0 (loopTemps (sub (B F_r03_Day) [1, 1, 1, 0, 1, 0, 0]) ++ [10, 10]) [] (sub (B F_r03_Day) [1, 1, 1, 0, 1, 0, 0]) (blockK 0 (seqK (E0 lb n 0 996) (sub (B F_r03_Day) [1, 1, 1, 0]) (sub (B F_r03_Day) [1, 1, 1, 1]) (retK Tryz.prog (R F_r03_Day) 0 (outK (tightF Tryz.prog F_r03_Day))))) k26) (blockK 0 (seqK (E0 lb n 0 996) (sub (B F_r03_Day) [1, 1, 1, 0]) (sub (B F_r03_Day) [1, 1, 1, 1]) (retK Tryz.prog (R F_r03_Day) 0 (outK (tightF Tryz.prog F_r03_Day)))))) ⟨fr 64 [(0, .val (.int .i64 a1)), (1, .val (.int .i64 b2)), (2, .val (.int .i64 c3)), (6, .val (.int .i64 0)), (7, .val (.int .i64 0)), (8, .val (.int .i64 i37)), (9, .val (.int .i64 i17)), (10, .val (.int .i64 i38)), (37, .val (.int .i64 c3)), (38, .val (.int .i64 (IntKind.wrap .i64 (c3 - 1))))], [bx 64 []], KK⟩)

theorem r03_Day_J3_eq (lb : Nat) (n : Nat) (k26 : Nat) (a1 : Int) (b2 : Int) (c3 : Int) (i17 : Int) (i37 : Int) (i38 : Int) :
  r03_Day_J3 lb n k26 a1 b2 c3 i17 i37 i38 =
 r03_Day_L1 lb n k26 a1 b2 c3 i37 (IntKind.wrap .i64 (i17 + 1)) := (hold_eq _).trans (by kernel_rfl)

theorem r03_Day_L2_succ (lb : Nat) (n k34 : Nat) (k26 : Nat) (a1 : Int) (b2 : Int) (c3 : Int) (i17 : Int) (i29 : Int) (i30 : Int) :
  r03_Day_L2 lb n (k34 + 1) k26 a1 b2 c3 i17 i29 i30 =
 bif (decide (i30 ≤ 12)) then
 (optO (C lb n F_r03_Length [.int .i64 i17, .int .i64 i30]) fun r35 =>
 optO (CV.asI .i64 r35) fun i36 =>
 r03_Day_L2 lb n k34 k26 a1 b2 c3 i17 (IntKind.wrap .i64 (i29 + i36)) (IntKind.wrap .i64 (i30 + 1)))
 else
 (r03_Day_J3 lb n k26 a1 b2 c3 i17 i29 i30) := (hold_eq _).trans (by kernel_rfl)

noncomputable def r03_Day_J4 (lb : Nat) (n : Nat) (a1 : Int) (b2 : Int) (c3 : Int) (i39 : Int) (i40 : Int) : Option CV :=
  hold (E0 lb n 0 996 (sub (B F_r03_Day) [1, 1, 1, 1]) (retK Tryz.prog (R F_r03_Day) 0 (outK (tightF Tryz.prog F_r03_Day))) ⟨fr 64 [(0, .val (.int .i64 a1)), (1, .val (.int .i64 b2)), (2, .val (.int .i64 c3)), (6, .val (.int .i64 0)), (7, .val (.int .i64 0)), (8, .val (.int .i64 i39)), (9, .val (.int .i64 i40)), (37, .val (.int .i64 c3)), (38, .val (.int .i64 (IntKind.wrap .i64 (c3 - 1))))], [bx 64 []], KK⟩)

noncomputable def r03_Day_L5 (lb : Nat) (n : Nat) (k47 : Nat) (a1 : Int) (b2 : Int) (c3 : Int) (i40 : Int) (i43 : Int) (i44 : Int) : Option CV :=
  hold (loopC (E0 lb n 0 992) 0 (loopTemps (sub (B F_r03_Day) [1, 1, 1, 1, 0, 1, 0, 0]) ++ []) [] (sub (B F_r03_Day) [1, 1, 1, 1, 0, 1, 0, 0]) (blockK 4 (seqK (E0 lb n 0 995) (sub (B F_r03_Day) [1, 1, 1, 1, 0]) (sub (B F_r03_Day) [1, 1, 1, 1, 1]) (retK Tryz.prog (R F_r03_Day) 0 (outK (tightF Tryz.prog F_r03_Day))))) k47 ⟨fr 64 [(0, .val (.int .i64 a1)), (1, .val (.int .i64 b2)), (2, .val (.int .i64 c3)), (6, .val (.int .i64 0)), (7, .val (.int .i64 0)), (8, .val (.int .i64 i43)), (9, .val (.int .i64 i40)), (11, .val (.int .i64 i44)), (37, .val (.int .i64 c3)), (38, .val (.int .i64 (IntKind.wrap .i64 (c3 - 1))))], [bx 64 []], KK⟩)

noncomputable def r03_Day_J6 (lb : Nat) (n : Nat) (a1 : Int) (b2 : Int) (c3 : Int) (i40 : Int) (i50 : Int) (i51 : Int) : Option CV :=
  hold (E0 lb n 0 995 (sub (B F_r03_Day) [1, 1, 1, 1, 1]) (retK Tryz.prog (R F_r03_Day) 0 (outK (tightF Tryz.prog F_r03_Day))) ⟨fr 64 [(0, .val (.int .i64 a1)), (1, .val (.int .i64 b2)), (2, .val (.int .i64 c3)), (6, .val (.int .i64 0)), (7, .val (.int .i64 0)), (8, .val (.int .i64 i50)), (9, .val (.int .i64 i40)), (11, .val (.int .i64 i51)), (37, .val (.int .i64 c3)), (38, .val (.int .i64 (IntKind.wrap .i64 (c3 - 1))))], [bx 64 []], KK⟩)

theorem r03_Day_J6_eq (lb : Nat) (n : Nat) (a1 : Int) (b2 : Int) (c3 : Int) (i40 : Int) (i50 : Int) (i51 : Int) :
  r03_Day_J6 lb n a1 b2 c3 i40 i50 i51 =
 some (.tup [.int .i64 i50, .int .i64 0]) := (hold_eq _).trans (by kernel_rfl)

theorem r03_Day_L5_succ (lb : Nat) (n k47 : Nat) (a1 : Int) (b2 : Int) (c3 : Int) (i40 : Int) (i43 : Int) (i44 : Int) :
  r03_Day_L5 lb n (k47 + 1) a1 b2 c3 i40 i43 i44 =
 bif (decide (i44 < b2)) then
 (optO (C lb n F_r03_Length [.int .i64 a1, .int .i64 i44]) fun r48 =>
 optO (CV.asI .i64 r48) fun i49 =>
 r03_Day_L5 lb n k47 a1 b2 c3 i40 (IntKind.wrap .i64 (i43 + i49)) (IntKind.wrap .i64 (i44 + 1)))
 else
 (r03_Day_J6 lb n a1 b2 c3 i40 i43 i44) := (hold_eq _).trans (by kernel_rfl)

theorem r03_Day_J4_eq (lb : Nat) (n : Nat) (a1 : Int) (b2 : Int) (c3 : Int) (i39 : Int) (i40 : Int) :
  r03_Day_J4 lb n a1 b2 c3 i39 i40 =
 r03_Day_L5 lb n n a1 b2 c3 i40 i39 1 := (hold_eq _).trans (by kernel_rfl)

theorem r03_Day_L1_succ (lb : Nat) (n k26 : Nat) (a1 : Int) (b2 : Int) (c3 : Int) (i15 : Int) (i17 : Int) :
  r03_Day_L1 lb n (k26 + 1) a1 b2 c3 i15 i17 =
 bif (decide (i17 < a1)) then
 (r03_Day_L2 lb n n k26 a1 b2 c3 i17 i15 1)
 else
 (r03_Day_J4 lb n a1 b2 c3 i15 i17) := (hold_eq _).trans (by kernel_rfl)

theorem r03_Day_eq (lb : Nat) (n : Nat) (a1 : Int) (b2 : Int) (c3 : Int) :
  top lb n F_r03_Day [.int .i64 a1, .int .i64 b2, .int .i64 c3] =
 bif (decide (a1 < 2000)) then
 (some (.tup [.int .i64 0, .int .i64 12]))
 else
 (bif (decide (a1 > 2099)) then
 (some (.tup [.int .i64 0, .int .i64 12]))
 else
 (bif (decide (b2 < 1)) then
 (some (.tup [.int .i64 0, .int .i64 12]))
 else
 (bif (decide (b2 > 12)) then
 (some (.tup [.int .i64 0, .int .i64 12]))
 else
 (bif (decide (c3 < 1)) then
 (some (.tup [.int .i64 0, .int .i64 12]))
 else
 (optO (C lb n F_r03_Length [.int .i64 a1, .int .i64 b2]) fun r4 =>
 optO (CV.asI .i64 r4) fun i5 =>
 bif (decide (c3 > i5)) then
 (some (.tup [.int .i64 0, .int .i64 12]))
 else
 (r03_Day_L1 lb n n a1 b2 c3 (IntKind.wrap .i64 (c3 - 1)) 2000)))))) := by kernel_rfl

/-! airline/period.Parse -/
theorem period_Parse_eq (lb : Nat) (n : Nat) (a1 : List UInt8) :
  top lb n F_period_Parse [.str a1] =
 optO (C lb n F_strings_Split [.str a1, .str [47]]) fun r2 =>
 optO (CV.asL r2) fun p3 =>
 bif ((p3.2.length : Int) != 3) then
 (some (.tup [.agg [.int .i64 0, .int .i64 0, .int .i64 0], .int .i64 3]))
 else
 (optO (CV.asL r2) fun p4 =>
 optO (atL p4.2 0) fun c5 =>
 chkO (c5.length == 1) (
 optO (c5[0]?) fun x6 =>
 optO (C lb n F_calendar_Parse [x6]) fun r7 =>
 optO (CV.asT r7) fun t9 =>
 optO (t9[0]?) fun x10 =>
 optO (CV.asT r7) fun t11 =>
 optO (t11[1]?) fun x12 =>
 optO (CV.asI .i64 x12) fun i13 =>
 bif (i13 != 0) then
 (some (.tup [.agg [.int .i64 0, .int .i64 0, .int .i64 0], x12]))
 else
 (optO (CV.asL r2) fun p14 =>
 optO (atL p14.2 1) fun c15 =>
 chkO (c15.length == 1) (
 optO (c15[0]?) fun x17 =>
 optO (C lb n F_calendar_Parse [x17]) fun r18 =>
 optO (CV.asT r18) fun t19 =>
 optO (t19[0]?) fun x20 =>
 optO (CV.asT r18) fun t21 =>
 optO (t21[1]?) fun x22 =>
 optO (CV.asI .i64 x22) fun i23 =>
 bif (i23 != 0) then
 (some (.tup [.agg [.int .i64 0, .int .i64 0, .int .i64 0], x22]))
 else
 (optO (CV.asL r2) fun p24 =>
 optO (atL p24.2 2) fun c25 =>
 chkO (c25.length == 1) (
 optO (c25[0]?) fun x26 =>
 optO (C lb n F_period_weekdays [x26]) fun r27 =>
 optO (CV.asT r27) fun t28 =>
 optO (t28[0]?) fun x29 =>
 optO (CV.asT r27) fun t30 =>
 optO (t30[1]?) fun x31 =>
 optO (CV.asB x31) fun b33 =>
 bif (!b33) then
 (some (.tup [.agg [.int .i64 0, .int .i64 0, .int .i64 0], .int .i64 3]))
 else
 (chkO (CV.isCell x10) (
 chkO (CV.isCell x20) (
 chkO (CV.isCell x29) (
 optO (C lb n F_period_Check [.agg [x10, x20, x29]]) fun r34 =>
 optO (CV.asI .i64 r34) fun i35 =>
 bif (i35 != 0) then
 (some (.tup [.agg [.int .i64 0, .int .i64 0, .int .i64 0], r34]))
 else
 (some (.tup [.agg [x10, x20, x29], .int .i64 0])))))))))))) := by kernel_rfl

/-! airline/period.weekdays -/
noncomputable def period_weekdays_L1 (lb : Nat) (n : Nat) (k7 : Nat) (a1 : List UInt8) (i3 : Int) (i4 : Int) (i5 : Int) : Option CV :=
  hold (loopC (E0 lb n 0 994) 0 (loopTemps (sub (B F_period_weekdays) [1, 1, 0, 1, 0, 0]) ++ [6, 7]) [] (sub (B F_period_weekdays) [1, 1, 0, 1, 0, 0]) (blockK 0 (seqK (E0 lb n 0 997) (sub (B F_period_weekdays) [1, 1, 0]) (sub (B F_period_weekdays) [1, 1, 1]) (retK Tryz.prog (R F_period_weekdays) 0 (outK (tightF Tryz.prog F_period_weekdays))))) k7 ⟨fr 34 [(0, .val (.str a1)), (2, .val (.int .i64 0)), (3, .val (.bool false)), (4, .val (.int .i64 i3)), (5, .val (.int .i64 i4)), (8, .val (.str a1)), (9, .val (.int .i64 (a1.length : Int))), (10, .val (.int .i64 i5))], [bx 34 []], KK⟩)

noncomputable def period_weekdays_J2 (lb : Nat) (n : Nat) (a1 : List UInt8) (i10 : Int) (i11 : Int) : Option CV :=
  hold (E0 lb n 0 997 (sub (B F_period_weekdays) [1, 1, 1]) (retK Tryz.prog (R F_period_weekdays) 0 (outK (tightF Tryz.prog F_period_weekdays))) ⟨fr 34 [(0, .val (.str a1)), (2, .val (.int .i64 0)), (3, .val (.bool false)), (4, .val (.int .i64 i10)), (5, .val (.int .i64 i11))], [bx 34 []], KK⟩)

theorem period_weekdays_J2_eq (lb : Nat) (n : Nat) (a1 : List UInt8) (i10 : Int) (i11 : Int) :
  period_weekdays_J2 lb n a1 i10 i11 =
 some (.tup [.int .i64 i10, .bool (decide (i10 > 0))]) := (hold_eq _).trans (by kernel_rfl)

theorem period_weekdays_L1_succ (lb : Nat) (n k7 : Nat) (a1 : List UInt8) (i3 : Int) (i4 : Int) (i5 : Int) :
  period_weekdays_L1 lb n (k7 + 1) a1 i3 i4 i5 =
 bif (decide (i5 < (a1.length : Int))) then
 (optO (atS a1 i5) fun c9 =>
 bif (decide ((IntKind.wrap .i64 ((IntKind.wrap .i64 ((c9.toNat : Int))) - 49)) ≤ i4)) then
 (some (.tup [.int .i64 0, .bool false]))
 else
 (bif (decide ((IntKind.wrap .i64 ((IntKind.wrap .i64 ((c9.toNat : Int))) - 49)) > 6)) then
 (some (.tup [.int .i64 0, .bool false]))
 else
 (chkO (decide (0 ≤ (IntKind.wrap .i64 ((IntKind.wrap .i64 ((c9.toNat : Int))) - 49)))) (
 period_weekdays_L1 lb n k7 a1 (IntKind.wrap .i64 ((BitVec.ofInt 64 i3 ||| BitVec.ofInt 64 (IntKind.wrap .i64 (1 * 2 ^ (min ((IntKind.wrap .i64 ((IntKind.wrap .i64 ((c9.toNat : Int))) - 49))).toNat 64)))).toNat)) (IntKind.wrap .i64 ((IntKind.wrap .i64 ((c9.toNat : Int))) - 49)) (IntKind.wrap .i64 (i5 + 1))))))
 else
 (period_weekdays_J2 lb n a1 i3 i4) := (hold_eq _).trans (by kernel_rfl)

theorem period_weekdays_eq (lb : Nat) (n : Nat) (a1 : List UInt8) :
  top lb n F_period_weekdays [.str a1] =
 period_weekdays_L1 lb n n a1 0 (-1) 0 := by kernel_rfl

/-! airline/period.Print -/
noncomputable def period_Print_L1 (lb : Nat) (n : Nat) (k12 : Nat) (afro1 : Int) (ato2 : Int) (aday3 : Int) (s9 : List UInt8) (i10 : Int) : Option CV :=
  hold (loopC (E0 lb n 0 993) 0 (loopTemps (sub (B F_period_Print) [1, 1, 1, 0, 1, 0, 0]) ++ [4]) [] (sub (B F_period_Print) [1, 1, 1, 0, 1, 0, 0]) (blockK 0 (seqK (E0 lb n 0 996) (sub (B F_period_Print) [1, 1, 1, 0]) (sub (B F_period_Print) [1, 1, 1, 1]) (retK Tryz.prog (R F_period_Print) 0 (outK (tightF Tryz.prog F_period_Print))))) k12 ⟨fr 34 [(0, .val (.agg [.int .i64 afro1, .int .i64 ato2, .int .i64 aday3])), (1, .ptr 0 1 0), (2, .val (.str [])), (3, .val (.str s9)), (8, .val (.int .i64 i10))], [bx 34 [(1, some [.val (.int .i64 afro1), .val (.int .i64 ato2), .val (.int .i64 aday3)])]], KK⟩)

noncomputable def period_Print_J2 (lb : Nat) (n : Nat) (afro1 : Int) (ato2 : Int) (aday3 : Int) (s14 : List UInt8) : Option CV :=
  hold (E0 lb n 0 996 (sub (B F_period_Print) [1, 1, 1, 1]) (retK Tryz.prog (R F_period_Print) 0 (outK (tightF Tryz.prog F_period_Print))) ⟨fr 34 [(0, .val (.agg [.int .i64 afro1, .int .i64 ato2, .int .i64 aday3])), (1, .ptr 0 1 0), (2, .val (.str [])), (3, .val (.str s14))], [bx 34 [(1, some [.val (.int .i64 afro1), .val (.int .i64 ato2), .val (.int .i64 aday3)])]], KK⟩)

theorem period_Print_J2_eq (lb : Nat) (n : Nat) (afro1 : Int) (ato2 : Int) (aday3 : Int) (s14 : List UInt8) :
  period_Print_J2 lb n afro1 ato2 aday3 s14 =
 optO (C lb n F_calendar_Print [.int .i64 afro1]) fun r15 =>
 optO (CV.asS r15) fun s17 =>
 chkO (decide (s17.length + [47].length ≤ 9223372036854775807)) (
 optO (C lb n F_calendar_Print [.int .i64 ato2]) fun r18 =>
 optO (CV.asS r18) fun s19 =>
 chkO (decide ((s17 ++ [47]).length + s19.length ≤ 9223372036854775807)) (
 chkO (decide (((s17 ++ [47]) ++ s19).length + [47].length ≤ 9223372036854775807)) (
 chkO (decide ((((s17 ++ [47]) ++ s19) ++ [47]).length + s14.length ≤ 9223372036854775807)) (
 some (.str ((((s17 ++ [47]) ++ s19) ++ [47]) ++ s14)))))) := (hold_eq _).trans (by kernel_rfl)

theorem period_Print_L1_succ (lb : Nat) (n k12 : Nat) (afro1 : Int) (ato2 : Int) (aday3 : Int) (s9 : List UInt8) (i10 : Int) :
  period_Print_L1 lb n (k12 + 1) afro1 ato2 aday3 s9 i10 =
 bif (decide (i10 < 7)) then
 (chkO (decide (0 ≤ i10)) (
 bif ((IntKind.wrap .i64 ((BitVec.ofInt 64 (Int.fdiv aday3 (2 ^ (min (i10).toNat 64))) &&& BitVec.ofInt 64 1).toNat)) == 1) then
 (optO (atS [49, 50, 51, 52, 53, 54, 55] i10) fun c13 =>
 chkO (decide (s9.length + ((Utf8.encode (c13.toNat : Int)).data.toList).length ≤ 9223372036854775807)) (
 period_Print_L1 lb n k12 afro1 ato2 aday3 (s9 ++ ((Utf8.encode (c13.toNat : Int)).data.toList)) (IntKind.wrap .i64 (i10 + 1))))
 else
 (period_Print_L1 lb n k12 afro1 ato2 aday3 s9 (IntKind.wrap .i64 (i10 + 1)))))
 else
 (period_Print_J2 lb n afro1 ato2 aday3 s9) := (hold_eq _).trans (by kernel_rfl)

theorem period_Print_eq (lb : Nat) (n : Nat) (afro1 : Int) (ato2 : Int) (aday3 : Int) :
  top lb n F_period_Print [.agg [.int .i64 afro1, .int .i64 ato2, .int .i64 aday3]] =
 optO (C lb n F_period_Check [.agg [.int .i64 afro1, .int .i64 ato2, .int .i64 aday3]]) fun r4 =>
 optO (CV.asI .i64 r4) fun i5 =>
 bif (i5 != 0) then
 (some (.str []))
 else
 (period_Print_L1 lb n n afro1 ato2 aday3 [] 0) := by kernel_rfl

/-! airline/airlineref04.Parse -/
noncomputable def r04_Parse_L1 (lb : Nat) (n : Nat) (k50 : Nat) (a1 : List UInt8) (r2 : CV) (x10 : CV) (x12 : CV) (x20 : CV) (x22 : CV) (r7 : CV) (c5 : List CV) (x6 : CV) (r18 : CV) (c15 : List CV) (x17 : CV) (i36 : Int) (i37 : Int) (i38 : Int) (i39 : Int) (i40 : Int) : Option CV :=
  hold (loopC (E0 lb n 0 986) 0 (loopTemps (sub (B F_r04_Parse) [1, 1, 1, 1, 1, 1, 1, 1, 1, 1, 0, 1, 0, 0]) ++ [14]) [] (sub (B F_r04_Parse) [1, 1, 1, 1, 1, 1, 1, 1, 1, 1, 0, 1, 0, 0]) (blockK 0 (seqK (E0 lb n 0 989) (sub (B F_r04_Parse) [1, 1, 1, 1, 1, 1, 1, 1, 1, 1, 0]) (sub (B F_r04_Parse) [1, 1, 1, 1, 1, 1, 1, 1, 1, 1, 1]) (retK Tryz.prog (R F_r04_Parse) 0 (outK (tightF Tryz.prog F_r04_Parse))))) k50 ⟨fr 92 [(0, .val (.str a1)), (2, .ptr 0 2 0), (3, .val (.int .i64 0)), (4, .val r2), (5, .val x10), (6, .val x12), (7, .val x20), (8, .val x22), (9, .ptr 0 9 0), (10, .val (.int .i64 i36)), (11, .val (.int .i64 i37)), (12, .val (.int .i64 i38)), (13, .val (.int .i64 i39)), (15, .val (.str a1)), (16, .val r2), (21, .val r7), (22, .val r2), (23, .cptr c5 0), (24, .val x6), (25, .val r7), (26, .val x10), (27, .val x12), (32, .val r18), (33, .val r2), (34, .cptr c15 0), (35, .val x17), (36, .val r18), (37, .val x20), (38, .val x22), (43, .val x10), (44, .val x20), (45, .val (.agg [x10, x20, .int .i64 0]))], [bx 92 [(2, some [.val (.int .i64 0), .val (.int .i64 0), .val (.int .i64 0)]), (9, some [.val x10, .val x20, .val (.int .i64 i40)])]], KK⟩)

noncomputable def r04_Parse_L2 (lb : Nat) (n : Nat) (k62 : Nat) (k50 : Nat) (a1 : List UInt8) (r2 : CV) (x10 : CV) (x12 : CV) (x20 : CV) (x22 : CV) (i36 : Int) (i39 : Int) (c59 : UInt8) (r7 : CV) (c5 : List CV) (x6 : CV) (r18 : CV) (c15 : List CV) (x17 : CV) (c56 : List CV) (x57 : CV) (i40 : Int) (i60 : Int) (i61 : Int) : Option CV :=
  hold (loopC (E0 lb n 0 978) 0 (loopTemps (sub (B F_r04_Parse) [1, 1, 1, 1, 1, 1, 1, 1, 1, 1, 0, 1, 0, 0, 1, 0, 0, 1, 1, 0, 0, 0]) ++ []) [] (sub (B F_r04_Parse) [1, 1, 1, 1, 1, 1, 1, 1, 1, 1, 0, 1, 0, 0, 1, 0, 0, 1, 1, 0, 0, 0]) (blockK 2 (seqK (E0 lb n 0 980) (sub (B F_r04_Parse) [1, 1, 1, 1, 1, 1, 1, 1, 1, 1, 0, 1, 0, 0, 1, 0, 0, 1, 1, 0]) (sub (B F_r04_Parse) [1, 1, 1, 1, 1, 1, 1, 1, 1, 1, 0, 1, 0, 0, 1, 0, 0, 1, 1, 1]) (blockK 1 (seqK (E0 lb n 0 984) (sub (B F_r04_Parse) [1, 1, 1, 1, 1, 1, 1, 1, 1, 1, 0, 1, 0, 0, 1, 0]) (sub (B F_r04_Parse) [1, 1, 1, 1, 1, 1, 1, 1, 1, 1, 0, 1, 0, 0, 1, 1]) (loopK 0 (loopTemps (sub (B F_r04_Parse) [1, 1, 1, 1, 1, 1, 1, 1, 1, 1, 0, 1, 0, 0]) ++ [14]) [] (loopC (E0 lb n 0 986) 0 (loopTemps (sub (B F_r04_Parse) [1, 1, 1, 1, 1, 1, 1, 1, 1, 1, 0, 1, 0, 0]) ++ [14]) [] (sub (B F_r04_Parse) [1, 1, 1, 1, 1, 1, 1, 1, 1, 1, 0, 1, 0, 0]) (blockK 0 (seqK (E0 lb n 0 989) (sub (B F_r04_Parse) [1, 1, 1, 1, 1, 1, 1, 1, 1, 1, 0]) (sub (B F_r04_Parse) [1, 1, 1, 1, 1, 1, 1, 1, 1, 1, 1]) (retK Tryz.prog (R F_r04_Parse) 0 (outK (tightF Tryz.prog F_r04_Parse))))) k50) (blockK 0 (seqK (E0 lb n 0 989) (sub (B F_r04_Parse) [1, 1, 1, 1, 1, 1, 1, 1, 1, 1, 0]) (sub (B F_r04_Parse) [1, 1, 1, 1, 1, 1, 1, 1, 1, 1, 1]) (retK Tryz.prog (R F_r04_Parse) 0 (outK (tightF Tryz.prog F_r04_Parse)))))))))) k62 ⟨fr 92 [(0, .val (.str a1)), (2, .ptr 0 2 0), (3, .val (.int .i64 0)), (4, .val r2), (5, .val x10), (6, .val x12), (7, .val x20), (8, .val x22), (9, .ptr 0 9 0), (10, .val (.int .i64 i36)), (11, .val (.int .i64 i60)), (12, .val (.int .i64 i61)), (13, .val (.int .i64 i39)), (14, .val (.int .i64 (IntKind.wrap .i64 ((IntKind.wrap .i64 ((c59.toNat : Int))) - 48)))), (15, .val (.str a1)), (16, .val r2), (21, .val r7), (22, .val r2), (23, .cptr c5 0), (24, .val x6), (25, .val r7), (26, .val x10), (27, .val x12), (32, .val r18), (33, .val r2), (34, .cptr c15 0), (35, .val x17), (36, .val r18), (37, .val x20), (38, .val x22), (43, .val x10), (44, .val x20), (45, .val (.agg [x10, x20, .int .i64 0])), (54, .val r2), (55, .cptr c56 0), (56, .val x57), (57, .val (.int .i64 i39)), (58, .val (.int .u8 (c59.toNat : Int))), (59, .val (.int .i64 (IntKind.wrap .i64 ((c59.toNat : Int))))), (60, .val (.int .i64 (IntKind.wrap .i64 ((IntKind.wrap .i64 ((c59.toNat : Int))) - 48))))], [bx 92 [(2, some [.val (.int .i64 0), .val (.int .i64 0), .val (.int .i64 0)]), (9, some [.val x10, .val x20, .val (.int .i64 i40)])]], KK⟩)

noncomputable def r04_Parse_J3 (lb : Nat) (n : Nat) (k50 : Nat) (a1 : List UInt8) (r2 : CV) (x10 : CV) (x12 : CV) (x20 : CV) (x22 : CV) (i36 : Int) (i39 : Int) (c59 : UInt8) (r7 : CV) (c5 : List CV) (x6 : CV) (r18 : CV) (c15 : List CV) (x17 : CV) (c56 : List CV) (x57 : CV) (i40 : Int) (i63 : Int) (i65 : Int) : Option CV :=
  hold (E0 lb n 0 980 (sub (B F_r04_Parse) [1, 1, 1, 1, 1, 1, 1, 1, 1, 1, 0, 1, 0, 0, 1, 0, 0, 1, 1, 1]) (blockK 1 (seqK (E0 lb n 0 984) (sub (B F_r04_Parse) [1, 1, 1, 1, 1, 1, 1, 1, 1, 1, 0, 1, 0, 0, 1, 0]) (sub (B F_r04_Parse) [1, 1, 1, 1, 1, 1, 1, 1, 1, 1, 0, 1, 0, 0, 1, 1]) (loopK 0 (loopTemps (sub (B F_r04_Parse) [1, 1, 1, 1, 1, 1, 1, 1, 1, 1, 0, 1, 0, 0]) ++ [14]) [] (loopC (E0 lb n 0 986) 0 (loopTemps (sub (B F_r04_Parse) [1, 1, 1, 1, 1, 1, 1, 1, 1, 1, 0, 1, 0, 0]) ++ [14]) [] (sub (B F_r04_Parse) [1, 1, 1, 1, 1, 1, 1, 1, 1, 1, 0, 1, 0, 0]) (blockK 0 (seqK (E0 lb n 0 989) (sub (B F_r04_Parse) [1, 1, 1, 1, 1, 1, 1, 1, 1, 1, 0]) (sub (B F_r04_Parse) [1, 1, 1, 1, 1, 1, 1, 1, 1, 1, 1]) (retK Tryz.prog (R F_r04_Parse) 0 (outK (tightF Tryz.prog F_r04_Parse))))) k50) (blockK 0 (seqK (E0 lb n 0 989) (sub (B F_r04_Parse) [1, 1, 1, 1, 1, 1, 1, 1, 1, 1, 0]) (sub (B F_r04_Parse) [1, 1, 1, 1, 1, 1, 1, 1, 1, 1, 1]) (retK Tryz.prog (R F_r04_Parse) 0 (outK (tightF Tryz.prog F_r04_Parse)))))))) ⟨fr 92 [(0, .val (.str a1)), (2, .ptr 0 2 0), (3, .val (.int .i64 0)), (4, .val r2), (5, .val x10), (6, .val x12), (7, .val x20), (8, .val x22), (9, .ptr 0 9 0), (10, .val (.int .i64 i36)), (11, .val (.int .i64 i63)), (12, .val (.int .i64 i65)), (13, .val (.int .i64 i39)), (14, .val (.int .i64 (IntKind.wrap .i64 ((IntKind.wrap .i64 ((c59.toNat : Int))) - 48)))), (15, .val (.str a1)), (16, .val r2), (21, .val r7), (22, .val r2), (23, .cptr c5 0), (24, .val x6), (25, .val r7), (26, .val x10), (27, .val x12), (32, .val r18), (33, .val r2), (34, .cptr c15 0), (35, .val x17), (36, .val r18), (37, .val x20), (38, .val x22), (43, .val x10), (44, .val x20), (45, .val (.agg [x10, x20, .int .i64 0])), (54, .val r2), (55, .cptr c56 0), (56, .val x57), (57, .val (.int .i64 i39)), (58, .val (.int .u8 (c59.toNat : Int))), (59, .val (.int .i64 (IntKind.wrap .i64 ((c59.toNat : Int))))), (60, .val (.int .i64 (IntKind.wrap .i64 ((IntKind.wrap .i64 ((c59.toNat : Int))) - 48))))], [bx 92 [(2, some [.val (.int .i64 0), .val (.int .i64 0), .val (.int .i64 0)]), (9, some [.val x10, .val x20, .val (.int .i64 i40)])]], KK⟩)

noncomputable def r04_Parse_J4 (lb : Nat) (n : Nat) (k50 : Nat) (a1 : List UInt8) (r2 : CV) (x10 : CV) (x12 : CV) (x20 : CV) (x22 : CV) (i39 : Int) (r7 : CV) (c5 : List CV) (x6 : CV) (r18 : CV) (c15 : List CV) (x17 : CV) (i66 : Int) (i67 : Int) (i68 : Int) (i69 : Int) (i70 : Int) : Option CV :=
  hold (E0 lb n 0 984 (sub (B F_r04_Parse) [1, 1, 1, 1, 1, 1, 1, 1, 1, 1, 0, 1, 0, 0, 1, 1]) (loopK 0 (loopTemps (sub (B F_r04_Parse) [1, 1, 1, 1, 1, 1, 1, 1, 1, 1, 0, 1, 0, 0]) ++ [14]) [] (loopC (E0 lb n 0 986) 0 (loopTemps (sub (B F_r04_Parse) [1, 1, 1, 1, 1, 1, 1, 1, 1, 1, 0, 1, 0, 0]) ++ [14]) [] (sub (B F_r04_Parse) [1, 1, 1, 1, 1, 1, 1, 1, 1, 1, 0, 1, 0, 0]) (blockK 0 (seqK (E0 lb n 0 989) (sub (B F_r04_Parse) [1, 1, 1, 1, 1, 1, 1, 1, 1, 1, 0]) (sub (B F_r04_Parse) [1, 1, 1, 1, 1, 1, 1, 1, 1, 1, 1]) (retK Tryz.prog (R F_r04_Parse) 0 (outK (tightF Tryz.prog F_r04_Parse))))) k50) (blockK 0 (seqK (E0 lb n 0 989) (sub (B F_r04_Parse) [1, 1, 1, 1, 1, 1, 1, 1, 1, 1, 0]) (sub (B F_r04_Parse) [1, 1, 1, 1, 1, 1, 1, 1, 1, 1, 1]) (retK Tryz.prog (R F_r04_Parse) 0 (outK (tightF Tryz.prog F_r04_Parse)))))) ⟨fr 92 [(0, .val (.str a1)), (2, .ptr 0 2 0), (3, .val (.int .i64 0)), (4, .val r2), (5, .val x10), (6, .val x12), (7, .val x20), (8, .val x22), (9, .ptr 0 9 0), (10, .val (.int .i64 i66)), (11, .val (.int .i64 i67)), (12, .val (.int .i64 i68)), (13, .val (.int .i64 i39)), (14, .val (.int .i64 i69)), (15, .val (.str a1)), (16, .val r2), (21, .val r7), (22, .val r2), (23, .cptr c5 0), (24, .val x6), (25, .val r7), (26, .val x10), (27, .val x12), (32, .val r18), (33, .val r2), (34, .cptr c15 0), (35, .val x17), (36, .val r18), (37, .val x20), (38, .val x22), (43, .val x10), (44, .val x20), (45, .val (.agg [x10, x20, .int .i64 0]))], [bx 92 [(2, some [.val (.int .i64 0), .val (.int .i64 0), .val (.int .i64 0)]), (9, some [.val x10, .val x20, .val (.int .i64 i70)])]], KK⟩)

theorem r04_Parse_J4_eq (lb : Nat) (n : Nat) (k50 : Nat) (a1 : List UInt8) (r2 : CV) (x10 : CV) (x12 : CV) (x20 : CV) (x22 : CV) (i39 : Int) (r7 : CV) (c5 : List CV) (x6 : CV) (r18 : CV) (c15 : List CV) (x17 : CV) (i66 : Int) (i67 : Int) (i68 : Int) (i69 : Int) (i70 : Int) :
  r04_Parse_J4 lb n k50 a1 r2 x10 x12 x20 x22 i39 r7 c5 x6 r18 c15 x17 i66 i67 i68 i69 i70 =
 r04_Parse_L1 lb n k50 a1 r2 x10 x12 x20 x22 r7 c5 x6 r18 c15 x17 i66 i67 i68 (IntKind.wrap .i64 (i39 + 1)) i70 := (hold_eq _).trans (by kernel_rfl)

theorem r04_Parse_J3_eq (lb : Nat) (n : Nat) (k50 : Nat) (a1 : List UInt8) (r2 : CV) (x10 : CV) (x12 : CV) (x20 : CV) (x22 : CV) (i36 : Int) (i39 : Int) (c59 : UInt8) (r7 : CV) (c5 : List CV) (x6 : CV) (r18 : CV) (c15 : List CV) (x17 : CV) (c56 : List CV) (x57 : CV) (i40 : Int) (i63 : Int) (i65 : Int) :
  r04_Parse_J3 lb n k50 a1 r2 x10 x12 x20 x22 i36 i39 c59 r7 c5 x6 r18 c15 x17 c56 x57 i40 i63 i65 =
 r04_Parse_J4 lb n k50 a1 r2 x10 x12 x20 x22 i39 r7 c5 x6 r18 c15 x17 (IntKind.wrap .i64 ((IntKind.wrap .i64 ((c59.toNat : Int))) - 48)) i63 i65 (IntKind.wrap .i64 ((IntKind.wrap .i64 ((c59.toNat : Int))) - 48)) (IntKind.wrap .i64 (i40 + i63)) := (hold_eq _).trans (by kernel_rfl)

theorem r04_Parse_L2_succ (lb : Nat) (n k62 : Nat) (k50 : Nat) (a1 : List UInt8) (r2 : CV) (x10 : CV) (x12 : CV) (x20 : CV) (x22 : CV) (i36 : Int) (i39 : Int) (c59 : UInt8) (r7 : CV) (c5 : List CV) (x6 : CV) (r18 : CV) (c15 : List CV) (x17 : CV) (c56 : List CV) (x57 : CV) (i40 : Int) (i60 : Int) (i61 : Int) :
  r04_Parse_L2 lb n (k62 + 1) k50 a1 r2 x10 x12 x20 x22 i36 i39 c59 r7 c5 x6 r18 c15 x17 c56 x57 i40 i60 i61 =
 bif (decide (i61 < (IntKind.wrap .i64 ((IntKind.wrap .i64 ((c59.toNat : Int))) - 48)))) then
 (r04_Parse_L2 lb n k62 k50 a1 r2 x10 x12 x20 x22 i36 i39 c59 r7 c5 x6 r18 c15 x17 c56 x57 i40 (IntKind.wrap .i64 (2 * i60)) (IntKind.wrap .i64 (i61 + 1)))
 else
 (r04_Parse_J3 lb n k50 a1 r2 x10 x12 x20 x22 i36 i39 c59 r7 c5 x6 r18 c15 x17 c56 x57 i40 i60 i61) := (hold_eq _).trans (by kernel_rfl)

noncomputable def r04_Parse_J5 (lb : Nat) (n : Nat) (a1 : List UInt8) (r2 : CV) (x10 : CV) (x12 : CV) (x20 : CV) (x22 : CV) (r7 : CV) (c5 : List CV) (x6 : CV) (r18 : CV) (c15 : List CV) (x17 : CV) (i71 : Int) (i72 : Int) (i73 : Int) (i74 : Int) (i75 : Int) : Option CV :=
  hold (E0 lb n 0 989 (sub (B F_r04_Parse) [1, 1, 1, 1, 1, 1, 1, 1, 1, 1, 1]) (retK Tryz.prog (R F_r04_Parse) 0 (outK (tightF Tryz.prog F_r04_Parse))) ⟨fr 92 [(0, .val (.str a1)), (2, .ptr 0 2 0), (3, .val (.int .i64 0)), (4, .val r2), (5, .val x10), (6, .val x12), (7, .val x20), (8, .val x22), (9, .ptr 0 9 0), (10, .val (.int .i64 i71)), (11, .val (.int .i64 i72)), (12, .val (.int .i64 i73)), (13, .val (.int .i64 i74)), (15, .val (.str a1)), (16, .val r2), (21, .val r7), (22, .val r2), (23, .cptr c5 0), (24, .val x6), (25, .val r7), (26, .val x10), (27, .val x12), (32, .val r18), (33, .val r2), (34, .cptr c15 0), (35, .val x17), (36, .val r18), (37, .val x20), (38, .val x22), (43, .val x10), (44, .val x20), (45, .val (.agg [x10, x20, .int .i64 0]))], [bx 92 [(2, some [.val (.int .i64 0), .val (.int .i64 0), .val (.int .i64 0)]), (9, some [.val x10, .val x20, .val (.int .i64 i75)])]], KK⟩)

theorem r04_Parse_J5_eq (lb : Nat) (n : Nat) (a1 : List UInt8) (r2 : CV) (x10 : CV) (x12 : CV) (x20 : CV) (x22 : CV) (r7 : CV) (c5 : List CV) (x6 : CV) (r18 : CV) (c15 : List CV) (x17 : CV) (i71 : Int) (i72 : Int) (i73 : Int) (i74 : Int) (i75 : Int) :
  r04_Parse_J5 lb n a1 r2 x10 x12 x20 x22 r7 c5 x6 r18 c15 x17 i71 i72 i73 i74 i75 =
 bif (i71 == 0) then
 (some (.tup [.agg [.int .i64 0, .int .i64 0, .int .i64 0], .int .i64 3]))
 else
 (optO (C lb n F_r04_Check [.agg [x10, x20, .int .i64 i75]]) fun r76 =>
 optO (CV.asI .i64 r76) fun i77 =>
 bif (i77 != 0) then
 (optO (C lb n F_r04_Check [.agg [x10, x20, .int .i64 i75]]) fun r78 =>
 some (.tup [.agg [.int .i64 0, .int .i64 0, .int .i64 0], r78]))
 else
 (some (.tup [.agg [x10, x20, .int .i64 i75], .int .i64 0]))) := (hold_eq _).trans (by kernel_rfl)

theorem r04_Parse_L1_succ (lb : Nat) (n k50 : Nat) (a1 : List UInt8) (r2 : CV) (x10 : CV) (x12 : CV) (x20 : CV) (x22 : CV) (r7 : CV) (c5 : List CV) (x6 : CV) (r18 : CV) (c15 : List CV) (x17 : CV) (i36 : Int) (i37 : Int) (i38 : Int) (i39 : Int) (i40 : Int) :
  r04_Parse_L1 lb n (k50 + 1) a1 r2 x10 x12 x20 x22 r7 c5 x6 r18 c15 x17 i36 i37 i38 i39 i40 =
 optO (CV.asL r2) fun p51 =>
 optO (atL p51.2 2) fun c52 =>
 chkO (c52.length == 1) (
 optO (c52[0]?) fun x53 =>
 optO (CV.asS x53) fun s54 =>
 bif (decide (i39 < (s54.length : Int))) then
 (optO (CV.asL r2) fun p55 =>
 optO (atL p55.2 2) fun c56 =>
 chkO (c56.length == 1) (
 optO (c56[0]?) fun x57 =>
 optO (CV.asS x57) fun s58 =>
 optO (atS s58 i39) fun c59 =>
 bif (decide ((IntKind.wrap .i64 ((IntKind.wrap .i64 ((c59.toNat : Int))) - 48)) ≤ i36)) then
 (some (.tup [.agg [.int .i64 0, .int .i64 0, .int .i64 0], .int .i64 3]))
 else
 (bif (decide ((IntKind.wrap .i64 ((IntKind.wrap .i64 ((c59.toNat : Int))) - 48)) > 7)) then
 (some (.tup [.agg [.int .i64 0, .int .i64 0, .int .i64 0], .int .i64 3]))
 else
 (r04_Parse_L2 lb n n k50 a1 r2 x10 x12 x20 x22 i36 i39 c59 r7 c5 x6 r18 c15 x17 c56 x57 i40 i37 i38))))
 else
 (r04_Parse_J5 lb n a1 r2 x10 x12 x20 x22 r7 c5 x6 r18 c15 x17 i36 i37 i38 i39 i40)) := (hold_eq _).trans (by kernel_rfl)

theorem r04_Parse_eq (lb : Nat) (n : Nat) (a1 : List UInt8) :
  top lb n F_r04_Parse [.str a1] =
 optO (C lb n F_r04_Cut [.str a1, .int .u8 47]) fun r2 =>
 optO (CV.asL r2) fun p3 =>
 bif ((p3.2.length : Int) != 3) then
 (some (.tup [.agg [.int .i64 0, .int .i64 0, .int .i64 0], .int .i64 3]))
 else
 (optO (CV.asL r2) fun p4 =>
 optO (atL p4.2 0) fun c5 =>
 chkO (c5.length == 1) (
 optO (c5[0]?) fun x6 =>
 optO (C lb n F_r03_Parse [x6]) fun r7 =>
 optO (CV.asT r7) fun t9 =>
 optO (t9[0]?) fun x10 =>
 optO (CV.asT r7) fun t11 =>
 optO (t11[1]?) fun x12 =>
 optO (CV.asI .i64 x12) fun i13 =>
 bif (i13 != 0) then
 (some (.tup [.agg [.int .i64 0, .int .i64 0, .int .i64 0], x12]))
 else
 (optO (CV.asL r2) fun p14 =>
 optO (atL p14.2 1) fun c15 =>
 chkO (c15.length == 1) (
 optO (c15[0]?) fun x17 =>
 optO (C lb n F_r03_Parse [x17]) fun r18 =>
 optO (CV.asT r18) fun t19 =>
 optO (t19[0]?) fun x20 =>
 optO (CV.asT r18) fun t21 =>
 optO (t21[1]?) fun x22 =>
 optO (CV.asI .i64 x22) fun i23 =>
 bif (i23 != 0) then
 (some (.tup [.agg [.int .i64 0, .int .i64 0, .int .i64 0], x22]))
 else
 (chkO (CV.isCell x10) (
 chkO (CV.isCell x20) (
 r04_Parse_L1 lb n n a1 r2 x10 x12 x20 x22 r7 c5 x6 r18 c15 x17 0 1 1 0 0))))))) := by kernel_rfl

/-! airline/airlineref04.Cut -/
noncomputable def r04_Cut_L1 (lb : Nat) (n : Nat) (k19 : Nat) (a1 : List UInt8) (b2 : Int) (b13 : Bool) (l14 : List (List CV)) (i15 : Int) (i17 : Int) : Option CV :=
  hold (loopC (E0 lb n 0 993) 0 (loopTemps (sub (B F_r04_Cut) [1, 1, 1, 0, 1, 0, 0]) ++ []) [] (sub (B F_r04_Cut) [1, 1, 1, 0, 1, 0, 0]) (blockK 0 (seqK (E0 lb n 0 996) (sub (B F_r04_Cut) [1, 1, 1, 0]) (sub (B F_r04_Cut) [1, 1, 1, 1]) (retK Tryz.prog (R F_r04_Cut) 0 (outK (tightF Tryz.prog F_r04_Cut))))) k19 ⟨fr 35 [(0, .val (.str a1)), (1, .val (.int .u8 b2)), (4, .lst true true 9 []), (5, .lst true b13 9 l14), (6, .val (.int .i64 i15)), (7, .val (.int .i64 i17))], [bx 35 []], KK⟩)

noncomputable def r04_Cut_J2 (lb : Nat) (n : Nat) (a1 : List UInt8) (b2 : Int) (b21 : Bool) (l22 : List (List CV)) (i23 : Int) (i24 : Int) : Option CV :=
  hold (E0 lb n 0 996 (sub (B F_r04_Cut) [1, 1, 1, 1]) (retK Tryz.prog (R F_r04_Cut) 0 (outK (tightF Tryz.prog F_r04_Cut))) ⟨fr 35 [(0, .val (.str a1)), (1, .val (.int .u8 b2)), (4, .lst true true 9 []), (5, .lst true b21 9 l22), (6, .val (.int .i64 i23)), (7, .val (.int .i64 i24))], [bx 35 []], KK⟩)

theorem r04_Cut_J2_eq (lb : Nat) (n : Nat) (a1 : List UInt8) (b2 : Int) (b21 : Bool) (l22 : List (List CV)) (i23 : Int) (i24 : Int) :
  r04_Cut_J2 lb n a1 b2 b21 l22 i23 i24 =
 some (.list b21 l22) := (hold_eq _).trans (by kernel_rfl)

theorem r04_Cut_L1_succ (lb : Nat) (n k19 : Nat) (a1 : List UInt8) (b2 : Int) (b13 : Bool) (l14 : List (List CV)) (i15 : Int) (i17 : Int) :
  r04_Cut_L1 lb n (k19 + 1) a1 b2 b13 l14 i15 i17 =
 bif (decide (i17 ≤ (a1.length : Int))) then
 (bif (i17 == (a1.length : Int)) then
 (chkO (decide ((0 : Int) ≤ i17 ∧ i17 ≤ (a1.length : Int))) (
 chkO (decide ((0 : Int) ≤ i15 ∧ i15 ≤ i17)) (
 chkO (room (l14.length + 1) 16) (
 r04_Cut_L1 lb n k19 a1 b2 (b13 && false) (l14 ++ [[CV.str ((a1.take i17.toNat).drop i15.toNat)]]) (IntKind.wrap .i64 (i17 + 1)) (IntKind.wrap .i64 (i17 + 1))))))
 else
 (optO (atS a1 i17) fun c20 =>
 bif ((c20.toNat : Int) == b2) then
 (chkO (decide ((0 : Int) ≤ i17 ∧ i17 ≤ (a1.length : Int))) (
 chkO (decide ((0 : Int) ≤ i15 ∧ i15 ≤ i17)) (
 chkO (room (l14.length + 1) 16) (
 r04_Cut_L1 lb n k19 a1 b2 (b13 && false) (l14 ++ [[CV.str ((a1.take i17.toNat).drop i15.toNat)]]) (IntKind.wrap .i64 (i17 + 1)) (IntKind.wrap .i64 (i17 + 1))))))
 else
 (r04_Cut_L1 lb n k19 a1 b2 b13 l14 i15 (IntKind.wrap .i64 (i17 + 1)))))
 else
 (r04_Cut_J2 lb n a1 b2 b13 l14 i15 i17) := (hold_eq _).trans (by kernel_rfl)

theorem r04_Cut_eq (lb : Nat) (n : Nat) (a1 : List UInt8) (b2 : Int) :
  top lb n F_r04_Cut [.str a1, .int .u8 b2] =
 r04_Cut_L1 lb n n a1 b2 true [] 0 0 := by kernel_rfl

/-! airline/airlineref04.Print -/
noncomputable def r04_Print_L1 (lb : Nat) (n : Nat) (k22 : Nat) (afro1 : Int) (ato2 : Int) (aday3 : Int) (r6 : CV) (s7 : List UInt8) (r9 : CV) (s10 : List UInt8) (s17 : List UInt8) (i18 : Int) (i19 : Int) : Option CV :=
  hold (loopC (E0 lb n 0 992) 0 (loopTemps (sub (B F_r04_Print) [1, 1, 1, 1, 0, 1, 0, 0]) ++ []) [] (sub (B F_r04_Print) [1, 1, 1, 1, 0, 1, 0, 0]) (blockK 0 (seqK (E0 lb n 0 995) (sub (B F_r04_Print) [1, 1, 1, 1, 0]) (sub (B F_r04_Print) [1, 1, 1, 1, 1]) (retK Tryz.prog (R F_r04_Print) 0 (outK (tightF Tryz.prog F_r04_Print))))) k22 ⟨fr 34 [(0, .val (.agg [.int .i64 afro1, .int .i64 ato2, .int .i64 aday3])), (1, .ptr 0 1 0), (2, .val (.str [])), (3, .val (.str s17)), (4, .val (.int .i64 i18)), (5, .val (.int .i64 i19)), (9, .ptr 0 1 0), (10, .val (.int .i64 afro1)), (11, .val r6), (12, .val (.str (s7 ++ [47]))), (13, .ptr 0 1 1), (14, .val (.int .i64 ato2)), (15, .val r9), (16, .val (.str ((s7 ++ [47]) ++ s10))), (17, .val (.str (((s7 ++ [47]) ++ s10) ++ [47]))), (18, .ptr 0 1 2), (19, .val (.int .i64 aday3))], [bx 34 [(1, some [.val (.int .i64 afro1), .val (.int .i64 ato2), .val (.int .i64 aday3)])]], KK⟩)

noncomputable def r04_Print_J2 (lb : Nat) (n : Nat) (afro1 : Int) (ato2 : Int) (aday3 : Int) (r6 : CV) (s7 : List UInt8) (r9 : CV) (s10 : List UInt8) (s25 : List UInt8) (i26 : Int) (i27 : Int) : Option CV :=
  hold (E0 lb n 0 995 (sub (B F_r04_Print) [1, 1, 1, 1, 1]) (retK Tryz.prog (R F_r04_Print) 0 (outK (tightF Tryz.prog F_r04_Print))) ⟨fr 34 [(0, .val (.agg [.int .i64 afro1, .int .i64 ato2, .int .i64 aday3])), (1, .ptr 0 1 0), (2, .val (.str [])), (3, .val (.str s25)), (4, .val (.int .i64 i26)), (5, .val (.int .i64 i27)), (9, .ptr 0 1 0), (10, .val (.int .i64 afro1)), (11, .val r6), (12, .val (.str (s7 ++ [47]))), (13, .ptr 0 1 1), (14, .val (.int .i64 ato2)), (15, .val r9), (16, .val (.str ((s7 ++ [47]) ++ s10))), (17, .val (.str (((s7 ++ [47]) ++ s10) ++ [47]))), (18, .ptr 0 1 2), (19, .val (.int .i64 aday3))], [bx 34 [(1, some [.val (.int .i64 afro1), .val (.int .i64 ato2), .val (.int .i64 aday3)])]], KK⟩)

theorem r04_Print_J2_eq (lb : Nat) (n : Nat) (afro1 : Int) (ato2 : Int) (aday3 : Int) (r6 : CV) (s7 : List UInt8) (r9 : CV) (s10 : List UInt8) (s25 : List UInt8) (i26 : Int) (i27 : Int) :
  r04_Print_J2 lb n afro1 ato2 aday3 r6 s7 r9 s10 s25 i26 i27 =
 some (.str s25) := (hold_eq _).trans (by kernel_rfl)

theorem r04_Print_L1_succ (lb : Nat) (n k22 : Nat) (afro1 : Int) (ato2 : Int) (aday3 : Int) (r6 : CV) (s7 : List UInt8) (r9 : CV) (s10 : List UInt8) (s17 : List UInt8) (i18 : Int) (i19 : Int) :
  r04_Print_L1 lb n (k22 + 1) afro1 ato2 aday3 r6 s7 r9 s10 s17 i18 i19 =
 bif (decide (i19 ≤ 7)) then
 (bif ((Int.tmod i18 2) == 1) then
 (optO (C lb n F_r01_Decimal [.int .i64 i19]) fun r23 =>
 optO (CV.asS r23) fun s24 =>
 chkO (decide (s17.length + s24.length ≤ 9223372036854775807)) (
 r04_Print_L1 lb n k22 afro1 ato2 aday3 r6 s7 r9 s10 (s17 ++ s24) (IntKind.wrap .i64 (Int.tdiv i18 2)) (IntKind.wrap .i64 (i19 + 1))))
 else
 (r04_Print_L1 lb n k22 afro1 ato2 aday3 r6 s7 r9 s10 s17 (IntKind.wrap .i64 (Int.tdiv i18 2)) (IntKind.wrap .i64 (i19 + 1))))
 else
 (r04_Print_J2 lb n afro1 ato2 aday3 r6 s7 r9 s10 s17 i18 i19) := (hold_eq _).trans (by kernel_rfl)

theorem r04_Print_eq (lb : Nat) (n : Nat) (afro1 : Int) (ato2 : Int) (aday3 : Int) :
  top lb n F_r04_Print [.agg [.int .i64 afro1, .int .i64 ato2, .int .i64 aday3]] =
 optO (C lb n F_r04_Check [.agg [.int .i64 afro1, .int .i64 ato2, .int .i64 aday3]]) fun r4 =>
 optO (CV.asI .i64 r4) fun i5 =>
 bif (i5 != 0) then
 (some (.str []))
 else
 (optO (C lb n F_r03_Print [.int .i64 afro1]) fun r6 =>
 optO (CV.asS r6) fun s7 =>
 chkO (decide (s7.length + [47].length ≤ 9223372036854775807)) (
 optO (C lb n F_r03_Print [.int .i64 ato2]) fun r9 =>
 optO (CV.asS r9) fun s10 =>
 chkO (decide ((s7 ++ [47]).length + s10.length ≤ 9223372036854775807)) (
 chkO (decide (((s7 ++ [47]) ++ s10).length + [47].length ≤ 9223372036854775807)) (
 r04_Print_L1 lb n n afro1 ato2 aday3 r6 s7 r9 s10 (((s7 ++ [47]) ++ s10) ++ [47]) aday3 1)))) := by kernel_rfl

/-! airline/flight.written -/
noncomputable def flight_written_L1 (lb : Nat) (n : Nat) (k48 : Nat) (acar1 : List UInt8) (anum2 : Int) (aperfro3 : Int) (aperto4 : Int) (aperday5 : Int) (alegn6 : Bool) (aleg7 : List (List CV)) (r11 : CV) (b10 : Bool) (i30 : Int) : Option CV :=
  hold (loopC (E0 lb n 0 992) 0 (loopTemps (sub (B F_flight_written) [1, 1, 1, 1, 0, 1, 0, 0]) ++ [43, 60]) [5] (sub (B F_flight_written) [1, 1, 1, 1, 0, 1, 0, 0]) (blockK 1 (seqK (E0 lb n 0 995) (sub (B F_flight_written) [1, 1, 1, 1, 0]) (sub (B F_flight_written) [1, 1, 1, 1, 1]) (retK Tryz.prog (R F_flight_written) 0 (outK (tightF Tryz.prog F_flight_written))))) k48 ⟨fr 72 [(0, .val (.agg [.str acar1, .int .i64 anum2, .int .i64 aperfro3, .int .i64 aperto4, .int .i64 aperday5, .list alegn6 aleg7])), (1, .ptr 0 1 0), (2, .val (.int .i64 0)), (3, .val r11), (6, .val (.bool (!b10))), (11, .val (.bool (decide (anum2 > 9999)))), (36, .ptr 0 1 5), (37, .val (.list alegn6 aleg7)), (38, .val (.int .i64 (aleg7.length : Int))), (39, .val (.int .i64 i30))], [bx 72 [(1, some [.val (.str acar1), .val (.int .i64 anum2), .val (.int .i64 aperfro3), .val (.int .i64 aperto4), .val (.int .i64 aperday5), .val (.list alegn6 aleg7)])]], KK⟩)

noncomputable def flight_written_J2 (lb : Nat) (n : Nat) (acar1 : List UInt8) (anum2 : Int) (aperfro3 : Int) (aperto4 : Int) (aperday5 : Int) (alegn6 : Bool) (aleg7 : List (List CV)) (r11 : CV) (b10 : Bool) : Option CV :=
  hold (E0 lb n 0 995 (sub (B F_flight_written) [1, 1, 1, 1, 1]) (retK Tryz.prog (R F_flight_written) 0 (outK (tightF Tryz.prog F_flight_written))) ⟨fr 72 [(0, .val (.agg [.str acar1, .int .i64 anum2, .int .i64 aperfro3, .int .i64 aperto4, .int .i64 aperday5, .list alegn6 aleg7])), (1, .ptr 0 1 0), (2, .val (.int .i64 0)), (3, .val r11), (6, .val (.bool (!b10))), (11, .val (.bool (decide (anum2 > 9999))))], [bx 72 [(1, some [.val (.str acar1), .val (.int .i64 anum2), .val (.int .i64 aperfro3), .val (.int .i64 aperto4), .val (.int .i64 aperday5), .val (.list alegn6 aleg7)])]], KK⟩)

theorem flight_written_J2_eq (lb : Nat) (n : Nat) (acar1 : List UInt8) (anum2 : Int) (aperfro3 : Int) (aperto4 : Int) (aperday5 : Int) (alegn6 : Bool) (aleg7 : List (List CV)) (r11 : CV) (b10 : Bool) :
  flight_written_J2 lb n acar1 anum2 aperfro3 aperto4 aperday5 alegn6 aleg7 r11 b10 =
 some (.int .i64 0) := (hold_eq _).trans (by kernel_rfl)

theorem flight_written_L1_succ (lb : Nat) (n k48 : Nat) (acar1 : List UInt8) (anum2 : Int) (aperfro3 : Int) (aperto4 : Int) (aperday5 : Int) (alegn6 : Bool) (aleg7 : List (List CV)) (r11 : CV) (b10 : Bool) (i30 : Int) :
  flight_written_L1 lb n (k48 + 1) acar1 anum2 aperfro3 aperto4 aperday5 alegn6 aleg7 r11 b10 i30 =
 bif (decide (i30 < (aleg7.length : Int))) then
 (optO (atL aleg7 i30) fun c49 =>
 chkO (c49.length == 5) (
 optO (c49[0]?) fun x50 =>
 optO (c49[1]?) fun x51 =>
 optO (c49[2]?) fun x52 =>
 optO (c49[3]?) fun x53 =>
 optO (c49[4]?) fun x54 =>
 optO (C lb n F_text_Airport [x50]) fun r55 =>
 optO (CV.asB r55) fun b56 =>
 bif (!b56) then
 (some (.int .i64 5))
 else
 (optO (C lb n F_text_Airport [x51]) fun r57 =>
 optO (CV.asB r57) fun b58 =>
 bif (!b58) then
 (some (.int .i64 5))
 else
 (optO (C lb n F_text_Code [x54, .int .i64 3, .int .i64 3]) fun r59 =>
 optO (CV.asB r59) fun b60 =>
 bif (!b60) then
 (some (.int .i64 5))
 else
 (optO (C lb n F_flight_minutes [x52]) fun r61 =>
 optO (CV.asB r61) fun b62 =>
 bif (!b62) then
 (some (.int .i64 2))
 else
 (optO (C lb n F_flight_minutes [x53]) fun r63 =>
 optO (CV.asB r63) fun b65 =>
 bif (!b65) then
 (some (.int .i64 2))
 else
 (flight_written_L1 lb n k48 acar1 anum2 aperfro3 aperto4 aperday5 alegn6 aleg7 r11 b10 (IntKind.wrap .i64 (i30 + 1)))))))))
 else
 (flight_written_J2 lb n acar1 anum2 aperfro3 aperto4 aperday5 alegn6 aleg7 r11 b10 ) := (hold_eq _).trans (by kernel_rfl)

theorem flight_written_eq (lb : Nat) (n : Nat) (acar1 : List UInt8) (anum2 : Int) (aperfro3 : Int) (aperto4 : Int) (aperday5 : Int) (alegn6 : Bool) (aleg7 : List (List CV)) :
  top lb n F_flight_written [.agg [.str acar1, .int .i64 anum2, .int .i64 aperfro3, .int .i64 aperto4, .int .i64 aperday5, .list alegn6 aleg7]] =
 optO (C lb n F_text_Carrier [.str acar1]) fun r9 =>
 optO (CV.asB r9) fun b10 =>
 bif (!b10) then
 (some (.int .i64 5))
 else
 (bif (decide (anum2 < 1)) then
 (some (.int .i64 2))
 else
 (bif (decide (anum2 > 9999)) then
 (some (.int .i64 2))
 else
 (optO (C lb n F_period_Check [.agg [.int .i64 aperfro3, .int .i64 aperto4, .int .i64 aperday5]]) fun r11 =>
 optO (CV.asI .i64 r11) fun i12 =>
 bif (i12 != 0) then
 (some (r11))
 else
 (bif ((aleg7.length : Int) == 0) then
 (some (.int .i64 4))
 else
 (bif (decide ((aleg7.length : Int) > 6)) then
 (some (.int .i64 4))
 else
 (flight_written_L1 lb n n acar1 anum2 aperfro3 aperto4 aperday5 alegn6 aleg7 r11 b10 0)))))) := by kernel_rfl

/-! airline/airlineref07.Print -/
noncomputable def r07_Print_L1 (lb : Nat) (n : Nat) (k55 : Nat) (acar1 : List UInt8) (anum2 : Int) (aperfro3 : Int) (aperto4 : Int) (aperday5 : Int) (alegn6 : Bool) (aleg7 : List (List CV)) (p10 : Bool × List (List CV)) (r13 : CV) (r14 : CV) (l35 : List (List CV)) (i36 : Int) : Option CV :=
  hold (loopC (E0 lb n 0 992) 0 (loopTemps (sub (B F_r07_Print) [1, 1, 1, 1, 0, 1, 0, 0]) ++ []) [7] (sub (B F_r07_Print) [1, 1, 1, 1, 0, 1, 0, 0]) (blockK 0 (seqK (E0 lb n 0 995) (sub (B F_r07_Print) [1, 1, 1, 1, 0]) (sub (B F_r07_Print) [1, 1, 1, 1, 1]) (retK Tryz.prog (R F_r07_Print) 0 (outK (tightF Tryz.prog F_r07_Print))))) k55 ⟨fr 79 [(0, .val (.agg [.str acar1, .int .i64 anum2, .int .i64 aperfro3, .int .i64 aperto4, .int .i64 aperday5, .list alegn6 aleg7])), (1, .ptr 0 1 0), (2, .val (.str [])), (3, .val (.int .i64 0)), (4, .lst true p10.1 83 p10.2), (5, .lst true false 9 l35), (6, .val (.int .i64 i36)), (8, .val (.agg [.str acar1, .int .i64 anum2, .int .i64 aperfro3, .int .i64 aperto4, .int .i64 aperday5, .list alegn6 aleg7])), (9, .val (.list p10.1 p10.2)), (17, .ptr 0 1 0), (18, .val (.str acar1)), (19, .ptr 0 1 1), (20, .val (.int .i64 anum2)), (21, .val r13), (22, .ptr 0 1 2), (23, .val (.agg [.int .i64 aperfro3, .int .i64 aperto4, .int .i64 aperday5])), (24, .val r14), (25, .val (.list false [[CV.str acar1], [r13], [r14]]))], [bx 79 [(1, some [.val (.str acar1), .val (.int .i64 anum2), .val (.int .i64 aperfro3), .val (.int .i64 aperto4), .val (.int .i64 aperday5), .val (.list alegn6 aleg7)])]], KK⟩)

noncomputable def r07_Print_J2 (lb : Nat) (n : Nat) (acar1 : List UInt8) (anum2 : Int) (aperfro3 : Int) (aperto4 : Int) (aperday5 : Int) (alegn6 : Bool) (aleg7 : List (List CV)) (p10 : Bool × List (List CV)) (r13 : CV) (r14 : CV) (b75 : Bool) (l76 : List (List CV)) (i77 : Int) : Option CV :=
  hold (E0 lb n 0 995 (sub (B F_r07_Print) [1, 1, 1, 1, 1]) (retK Tryz.prog (R F_r07_Print) 0 (outK (tightF Tryz.prog F_r07_Print))) ⟨fr 79 [(0, .val (.agg [.str acar1, .int .i64 anum2, .int .i64 aperfro3, .int .i64 aperto4, .int .i64 aperday5, .list alegn6 aleg7])), (1, .ptr 0 1 0), (2, .val (.str [])), (3, .val (.int .i64 0)), (4, .lst true p10.1 83 p10.2), (5, .lst true b75 9 l76), (6, .val (.int .i64 i77)), (8, .val (.agg [.str acar1, .int .i64 anum2, .int .i64 aperfro3, .int .i64 aperto4, .int .i64 aperday5, .list alegn6 aleg7])), (9, .val (.list p10.1 p10.2)), (17, .ptr 0 1 0), (18, .val (.str acar1)), (19, .ptr 0 1 1), (20, .val (.int .i64 anum2)), (21, .val r13), (22, .ptr 0 1 2), (23, .val (.agg [.int .i64 aperfro3, .int .i64 aperto4, .int .i64 aperday5])), (24, .val r14), (25, .val (.list false [[CV.str acar1], [r13], [r14]]))], [bx 79 [(1, some [.val (.str acar1), .val (.int .i64 anum2), .val (.int .i64 aperfro3), .val (.int .i64 aperto4), .val (.int .i64 aperday5), .val (.list alegn6 aleg7)])]], KK⟩)

theorem r07_Print_J2_eq (lb : Nat) (n : Nat) (acar1 : List UInt8) (anum2 : Int) (aperfro3 : Int) (aperto4 : Int) (aperday5 : Int) (alegn6 : Bool) (aleg7 : List (List CV)) (p10 : Bool × List (List CV)) (r13 : CV) (r14 : CV) (b75 : Bool) (l76 : List (List CV)) (i77 : Int) :
  r07_Print_J2 lb n acar1 anum2 aperfro3 aperto4 aperday5 alegn6 aleg7 p10 r13 r14 b75 l76 i77 =
 optO (C lb n F_r01_Join [.list b75 l76]) fun r78 =>
 some (.tup [r78, .int .i64 0]) := (hold_eq _).trans (by kernel_rfl)

theorem r07_Print_L1_succ (lb : Nat) (n k55 : Nat) (acar1 : List UInt8) (anum2 : Int) (aperfro3 : Int) (aperto4 : Int) (aperday5 : Int) (alegn6 : Bool) (aleg7 : List (List CV)) (p10 : Bool × List (List CV)) (r13 : CV) (r14 : CV) (l35 : List (List CV)) (i36 : Int) :
  r07_Print_L1 lb n (k55 + 1) acar1 anum2 aperfro3 aperto4 aperday5 alegn6 aleg7 p10 r13 r14 l35 i36 =
 bif (decide (i36 < (aleg7.length : Int))) then
 (optO (atL aleg7 i36) fun c56 =>
 chkO (c56.length == 5) (
 optO (c56[0]?) fun x57 =>
 optO (c56[1]?) fun x58 =>
 optO (c56[2]?) fun x59 =>
 optO (c56[3]?) fun x60 =>
 optO (c56[4]?) fun x61 =>
 optO (C lb n F_r01_Airport [x57]) fun r62 =>
 optO (CV.asB r62) fun b63 =>
 bif (!b63) then
 (some (.tup [.str [], .int .i64 5]))
 else
 (optO (C lb n F_r01_Airport [x58]) fun r65 =>
 optO (CV.asB r65) fun b66 =>
 bif (!b66) then
 (some (.tup [.str [], .int .i64 5]))
 else
 (optO (C lb n F_r01_Code [x61, .int .i64 3, .int .i64 3]) fun r67 =>
 optO (CV.asB r67) fun b68 =>
 bif (!b68) then
 (some (.tup [.str [], .int .i64 5]))
 else
 (optO (C lb n F_r07_out [x59]) fun r69 =>
 optO (CV.asB r69) fun b70 =>
 bif b70 then
 (some (.tup [.str [], .int .i64 2]))
 else
 (optO (C lb n F_r07_out [x60]) fun r71 =>
 optO (CV.asB r71) fun b72 =>
 bif b72 then
 (some (.tup [.str [], .int .i64 2]))
 else
 (optO (C lb n F_r01_Decimal [x59]) fun r73 =>
 optO (C lb n F_r01_Decimal [x60]) fun r74 =>
 chkO (CV.isCell x57) (
 chkO (CV.isCell x58) (
 chkO (CV.isCell r73) (
 chkO (CV.isCell r74) (
 chkO (CV.isCell x61) (
 chkO (room (l35.length + 5) 16) (
 r07_Print_L1 lb n k55 acar1 anum2 aperfro3 aperto4 aperday5 alegn6 aleg7 p10 r13 r14 (l35 ++ [[x57], [x58], [r73], [r74], [x61]]) (IntKind.wrap .i64 (i36 + 1)))))))))))))))
 else
 (r07_Print_J2 lb n acar1 anum2 aperfro3 aperto4 aperday5 alegn6 aleg7 p10 r13 r14 false l35 i36) := (hold_eq _).trans (by kernel_rfl)

theorem r07_Print_eq (lb : Nat) (n : Nat) (acar1 : List UInt8) (anum2 : Int) (aperfro3 : Int) (aperto4 : Int) (aperday5 : Int) (alegn6 : Bool) (aleg7 : List (List CV)) :
  top lb n F_r07_Print [.agg [.str acar1, .int .i64 anum2, .int .i64 aperfro3, .int .i64 aperto4, .int .i64 aperday5, .list alegn6 aleg7]] =
 optO (C lb n F_r07_head [.agg [.str acar1, .int .i64 anum2, .int .i64 aperfro3, .int .i64 aperto4, .int .i64 aperday5, .list alegn6 aleg7]]) fun r9 =>
 optO (CV.asL r9) fun p10 =>
 bif (decide ((p10.2.length : Int) > 0)) then
 (optO (atL p10.2 0) fun c11 =>
 chkO (c11.length == 2) (
 optO (c11[0]?) fun x12 =>
 some (.tup [.str [], x12])))
 else
 (optO (C lb n F_r01_Decimal [.int .i64 anum2]) fun r13 =>
 optO (C lb n F_r04_Print [.agg [.int .i64 aperfro3, .int .i64 aperto4, .int .i64 aperday5]]) fun r14 =>
 chkO (CV.isCell r13) (
 chkO (CV.isCell r14) (
 r07_Print_L1 lb n n acar1 anum2 aperfro3 aperto4 aperday5 alegn6 aleg7 p10 r13 r14 [[CV.str acar1], [r13], [r14]] 0))) := by kernel_rfl

/-! airline/flight.Print -/
noncomputable def flight_Print_L1 (lb : Nat) (n : Nat) (k33 : Nat) (acar1 : List UInt8) (anum2 : Int) (aperfro3 : Int) (aperto4 : Int) (aperday5 : Int) (alegn6 : Bool) (aleg7 : List (List CV)) (r9 : CV) (r11 : CV) (r12 : CV) (l22 : List (List CV)) (i23 : Int) : Option CV :=
  hold (loopC (E0 lb n 0 993) 0 (loopTemps (sub (B F_flight_Print) [1, 1, 1, 0, 1, 0, 0]) ++ []) [7] (sub (B F_flight_Print) [1, 1, 1, 0, 1, 0, 0]) (blockK 0 (seqK (E0 lb n 0 996) (sub (B F_flight_Print) [1, 1, 1, 0]) (sub (B F_flight_Print) [1, 1, 1, 1]) (retK Tryz.prog (R F_flight_Print) 0 (outK (tightF Tryz.prog F_flight_Print))))) k33 ⟨fr 47 [(0, .val (.agg [.str acar1, .int .i64 anum2, .int .i64 aperfro3, .int .i64 aperto4, .int .i64 aperday5, .list alegn6 aleg7])), (1, .ptr 0 1 0), (2, .val (.str [])), (3, .val (.int .i64 0)), (4, .val r9), (5, .lst true false 9 l22), (13, .ptr 0 1 0), (14, .val (.str acar1)), (15, .ptr 0 1 1), (16, .val (.int .i64 anum2)), (17, .val r11), (18, .ptr 0 1 2), (19, .val (.agg [.int .i64 aperfro3, .int .i64 aperto4, .int .i64 aperday5])), (20, .val r12), (21, .val (.list false [[CV.str acar1], [r11], [r12]])), (22, .ptr 0 1 5), (23, .val (.list alegn6 aleg7)), (24, .val (.int .i64 (aleg7.length : Int))), (25, .val (.int .i64 i23))], [bx 47 [(1, some [.val (.str acar1), .val (.int .i64 anum2), .val (.int .i64 aperfro3), .val (.int .i64 aperto4), .val (.int .i64 aperday5), .val (.list alegn6 aleg7)])]], KK⟩)

noncomputable def flight_Print_J2 (lb : Nat) (n : Nat) (acar1 : List UInt8) (anum2 : Int) (aperfro3 : Int) (aperto4 : Int) (aperday5 : Int) (alegn6 : Bool) (aleg7 : List (List CV)) (r9 : CV) (r11 : CV) (r12 : CV) (b42 : Bool) (l43 : List (List CV)) : Option CV :=
  hold (E0 lb n 0 996 (sub (B F_flight_Print) [1, 1, 1, 1]) (retK Tryz.prog (R F_flight_Print) 0 (outK (tightF Tryz.prog F_flight_Print))) ⟨fr 47 [(0, .val (.agg [.str acar1, .int .i64 anum2, .int .i64 aperfro3, .int .i64 aperto4, .int .i64 aperday5, .list alegn6 aleg7])), (1, .ptr 0 1 0), (2, .val (.str [])), (3, .val (.int .i64 0)), (4, .val r9), (5, .lst true b42 9 l43), (13, .ptr 0 1 0), (14, .val (.str acar1)), (15, .ptr 0 1 1), (16, .val (.int .i64 anum2)), (17, .val r11), (18, .ptr 0 1 2), (19, .val (.agg [.int .i64 aperfro3, .int .i64 aperto4, .int .i64 aperday5])), (20, .val r12), (21, .val (.list false [[CV.str acar1], [r11], [r12]]))], [bx 47 [(1, some [.val (.str acar1), .val (.int .i64 anum2), .val (.int .i64 aperfro3), .val (.int .i64 aperto4), .val (.int .i64 aperday5), .val (.list alegn6 aleg7)])]], KK⟩)

theorem flight_Print_J2_eq (lb : Nat) (n : Nat) (acar1 : List UInt8) (anum2 : Int) (aperfro3 : Int) (aperto4 : Int) (aperday5 : Int) (alegn6 : Bool) (aleg7 : List (List CV)) (r9 : CV) (r11 : CV) (r12 : CV) (b42 : Bool) (l43 : List (List CV)) :
  flight_Print_J2 lb n acar1 anum2 aperfro3 aperto4 aperday5 alegn6 aleg7 r9 r11 r12 b42 l43 =
 optO (C lb n F_text_Join [.list b42 l43]) fun r44 =>
 some (.tup [r44, .int .i64 0]) := (hold_eq _).trans (by kernel_rfl)

theorem flight_Print_L1_succ (lb : Nat) (n k33 : Nat) (acar1 : List UInt8) (anum2 : Int) (aperfro3 : Int) (aperto4 : Int) (aperday5 : Int) (alegn6 : Bool) (aleg7 : List (List CV)) (r9 : CV) (r11 : CV) (r12 : CV) (l22 : List (List CV)) (i23 : Int) :
  flight_Print_L1 lb n (k33 + 1) acar1 anum2 aperfro3 aperto4 aperday5 alegn6 aleg7 r9 r11 r12 l22 i23 =
 bif (decide (i23 < (aleg7.length : Int))) then
 (optO (atL aleg7 i23) fun c34 =>
 chkO (c34.length == 5) (
 optO (c34[0]?) fun x35 =>
 optO (c34[1]?) fun x36 =>
 optO (c34[2]?) fun x37 =>
 optO (c34[3]?) fun x38 =>
 optO (c34[4]?) fun x39 =>
 optO (C lb n F_text_Decimal [x37]) fun r40 =>
 optO (C lb n F_text_Decimal [x38]) fun r41 =>
 chkO (CV.isCell x35) (
 chkO (CV.isCell x36) (
 chkO (CV.isCell r40) (
 chkO (CV.isCell r41) (
 chkO (CV.isCell x39) (
 chkO (room (l22.length + 5) 16) (
 flight_Print_L1 lb n k33 acar1 anum2 aperfro3 aperto4 aperday5 alegn6 aleg7 r9 r11 r12 (l22 ++ [[x35], [x36], [r40], [r41], [x39]]) (IntKind.wrap .i64 (i23 + 1))))))))))
 else
 (flight_Print_J2 lb n acar1 anum2 aperfro3 aperto4 aperday5 alegn6 aleg7 r9 r11 r12 false l22) := (hold_eq _).trans (by kernel_rfl)

theorem flight_Print_eq (lb : Nat) (n : Nat) (acar1 : List UInt8) (anum2 : Int) (aperfro3 : Int) (aperto4 : Int) (aperday5 : Int) (alegn6 : Bool) (aleg7 : List (List CV)) :
  top lb n F_flight_Print [.agg [.str acar1, .int .i64 anum2, .int .i64 aperfro3, .int .i64 aperto4, .int .i64 aperday5, .list alegn6 aleg7]] =
 optO (C lb n F_flight_written [.agg [.str acar1, .int .i64 anum2, .int .i64 aperfro3, .int .i64 aperto4, .int .i64 aperday5, .list alegn6 aleg7]]) fun r9 =>
 optO (CV.asI .i64 r9) fun i10 =>
 bif (i10 != 0) then
 (some (.tup [.str [], r9]))
 else
 (optO (C lb n F_text_Decimal [.int .i64 anum2]) fun r11 =>
 optO (C lb n F_period_Print [.agg [.int .i64 aperfro3, .int .i64 aperto4, .int .i64 aperday5]]) fun r12 =>
 chkO (CV.isCell r11) (
 chkO (CV.isCell r12) (
 flight_Print_L1 lb n n acar1 anum2 aperfro3 aperto4 aperday5 alegn6 aleg7 r9 r11 r12 [[CV.str acar1], [r11], [r12]] 0))) := by kernel_rfl

end Go.Proofs
