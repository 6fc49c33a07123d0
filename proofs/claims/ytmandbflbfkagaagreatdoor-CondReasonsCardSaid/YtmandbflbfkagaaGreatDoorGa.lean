/- Equations of functions, printed by program. Conditions: none. -/
import Derived.Test.YtmandbflbfkagaaGreatDoorEv
namespace Go.Proofs
open Go.Am
set_option maxRecDepth 100000
set_option linter.unusedVariables false
/-! airline/period.Check -/
theorem period_Check_eq (lb : Nat) (n : Nat) (afro1 : Int) (ato2 : Int) (aday3 : Int) :
  top lb n F_period_Check [.agg [.int .i64 afro1, .int .i64 ato2, .int .i64 aday3]] =
 bif (decide (afro1 < 0)) then
 (some (.int .i64 12))
 else
 (bif (decide (ato2 < afro1)) then
 (some (.int .i64 12))
 else
 (bif (decide (ato2 ≥ 36525)) then
 (some (.int .i64 12))
 else
 (bif (decide ((IntKind.wrap .i64 (ato2 - afro1)) ≥ 800)) then
 (some (.int .i64 4))
 else
 (bif (decide (aday3 < 1)) then
 (some (.int .i64 2))
 else
 (bif (decide (aday3 > 127)) then
 (some (.int .i64 2))
 else
 (some (.int .i64 0))))))) := by kernel_rfl

/-! airline/airlineref04.Check -/
theorem r04_Check_eq (lb : Nat) (n : Nat) (afro1 : Int) (ato2 : Int) (aday3 : Int) :
  top lb n F_r04_Check [.agg [.int .i64 afro1, .int .i64 ato2, .int .i64 aday3]] =
 bif (decide (afro1 < 0)) then
 (some (.int .i64 12))
 else
 (bif (decide (afro1 > ato2)) then
 (some (.int .i64 12))
 else
 (bif (decide (ato2 ≥ 36525)) then
 (some (.int .i64 12))
 else
 (bif (decide ((IntKind.wrap .i64 (ato2 - afro1)) ≥ 800)) then
 (some (.int .i64 4))
 else
 (bif (decide (aday3 < 1)) then
 (some (.int .i64 2))
 else
 (bif (decide (aday3 > 127)) then
 (some (.int .i64 2))
 else
 (some (.int .i64 0))))))) := by kernel_rfl

/-! airline/calendar.Weekday -/
theorem calendar_Weekday_eq (lb : Nat) (n : Nat) (a1 : Int) :
  top lb n F_calendar_Weekday [.int .i64 a1] =
 some (.int .i64 (Int.tmod (IntKind.wrap .i64 ((Int.tmod a1 7) + 12)) 7)) := by kernel_rfl

/-! airline/airlineref03.Weekday -/
theorem r03_Weekday_eq (lb : Nat) (n : Nat) (a1 : Int) :
  top lb n F_r03_Weekday [.int .i64 a1] =
 some (.int .i64 (Int.tmod (IntKind.wrap .i64 ((Int.tmod a1 7) + 12)) 7)) := by kernel_rfl

/-! airline/period.on -/
theorem period_on_eq (lb : Nat) (n : Nat) (a1 : Int) (b2 : Int) :
  top lb n F_period_on [.int .i64 a1, .int .i64 b2] =
 optO (C lb n F_calendar_Weekday [.int .i64 b2]) fun r3 =>
 optO (CV.asI .i64 r3) fun i4 =>
 chkO (decide (0 ≤ i4)) (
 some (.bool ((IntKind.wrap .i64 ((BitVec.ofInt 64 (Int.fdiv a1 (2 ^ (min (i4).toNat 64))) &&& BitVec.ofInt 64 1).toNat)) == 1))) := by kernel_rfl

/-! airline/airlineref04.bit -/
noncomputable def r04_bit_L1 (lb : Nat) (n : Nat) (k9 : Nat) (a1 : Int) (i4 : Int) (i5 : Int) : Option CV :=
  hold (loopC (E0 lb n 0 994) 0 (loopTemps (sub (B F_r04_bit) [1, 1, 0, 1, 0, 0]) ++ []) [] (sub (B F_r04_bit) [1, 1, 0, 1, 0, 0]) (blockK 0 (seqK (E0 lb n 0 997) (sub (B F_r04_bit) [1, 1, 0]) (sub (B F_r04_bit) [1, 1, 1]) (retK Tryz.prog (R F_r04_bit) 0 (outK (tightF Tryz.prog F_r04_bit))))) k9 ⟨fr 14 [(0, .val (.int .i64 a1)), (2, .val (.int .i64 0)), (3, .val (.int .i64 i4)), (4, .val (.int .i64 i5))], [bx 14 []], KK⟩)

noncomputable def r04_bit_J2 (lb : Nat) (n : Nat) (a1 : Int) (i12 : Int) (i13 : Int) : Option CV :=
  hold (E0 lb n 0 997 (sub (B F_r04_bit) [1, 1, 1]) (retK Tryz.prog (R F_r04_bit) 0 (outK (tightF Tryz.prog F_r04_bit))) ⟨fr 14 [(0, .val (.int .i64 a1)), (2, .val (.int .i64 0)), (3, .val (.int .i64 i12)), (4, .val (.int .i64 i13))], [bx 14 []], KK⟩)

theorem r04_bit_J2_eq (lb : Nat) (n : Nat) (a1 : Int) (i12 : Int) (i13 : Int) :
  r04_bit_J2 lb n a1 i12 i13 =
 some (.int .i64 i12) := (hold_eq _).trans (by kernel_rfl)

theorem r04_bit_L1_succ (lb : Nat) (n k9 : Nat) (a1 : Int) (i4 : Int) (i5 : Int) :
  r04_bit_L1 lb n (k9 + 1) a1 i4 i5 =
 optO (C lb n F_r03_Weekday [.int .i64 a1]) fun r10 =>
 optO (CV.asI .i64 r10) fun i11 =>
 bif (decide (i5 < i11)) then
 (r04_bit_L1 lb n k9 a1 (IntKind.wrap .i64 (2 * i4)) (IntKind.wrap .i64 (i5 + 1)))
 else
 (r04_bit_J2 lb n a1 i4 i5) := (hold_eq _).trans (by kernel_rfl)

theorem r04_bit_L1_zero (lb : Nat) (n : Nat) (a1 : Int) (i4 : Int) (i5 : Int) :
  r04_bit_L1 lb n 0 a1 i4 i5 =
 none := (hold_eq _).trans (by kernel_rfl)

theorem r04_bit_eq (lb : Nat) (n : Nat) (a1 : Int) :
  top lb n F_r04_bit [.int .i64 a1] =
 r04_bit_L1 lb n n a1 1 0 := by kernel_rfl

/-! airline/period.Has -/
theorem period_Has_eq (lb : Nat) (n : Nat) (afro1 : Int) (ato2 : Int) (aday3 : Int) (b4 : Int) :
  top lb n F_period_Has [.agg [.int .i64 afro1, .int .i64 ato2, .int .i64 aday3], .int .i64 b4] =
 optO (C lb n F_period_Check [.agg [.int .i64 afro1, .int .i64 ato2, .int .i64 aday3]]) fun r5 =>
 optO (CV.asI .i64 r5) fun i6 =>
 bif (i6 == 0) then
 (bif (decide (b4 ≥ afro1)) then
 (bif (decide (b4 ≤ ato2)) then
 (optO (C lb n F_period_on [.int .i64 aday3, .int .i64 b4]) fun r7 =>
 some (r7))
 else
 (some (.bool false)))
 else
 (some (.bool false)))
 else
 (some (.bool false)) := by kernel_rfl

/-! airline/airlineref04.Has -/
theorem r04_Has_eq (lb : Nat) (n : Nat) (afro1 : Int) (ato2 : Int) (aday3 : Int) (b4 : Int) :
  top lb n F_r04_Has [.agg [.int .i64 afro1, .int .i64 ato2, .int .i64 aday3], .int .i64 b4] =
 optO (C lb n F_r04_Check [.agg [.int .i64 afro1, .int .i64 ato2, .int .i64 aday3]]) fun r5 =>
 optO (CV.asI .i64 r5) fun i6 =>
 bif (i6 == 0) then
 (bif (decide (b4 ≥ afro1)) then
 (bif (decide (b4 ≤ ato2)) then
 (optO (C lb n F_r04_bit [.int .i64 b4]) fun r7 =>
 optO (CV.asI .i64 r7) fun i9 =>
 chkO (i9 != 0) (
 some (.bool ((Int.tmod (IntKind.wrap .i64 (Int.tdiv aday3 i9)) 2) == 1))))
 else
 (some (.bool false)))
 else
 (some (.bool false)))
 else
 (some (.bool false)) := by kernel_rfl

end Go.Proofs
