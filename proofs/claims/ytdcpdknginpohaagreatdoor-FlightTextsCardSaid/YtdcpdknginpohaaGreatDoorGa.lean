/- Equations of functions, printed by program. Conditions: none. -/
import Derived.Test.YtdcpdknginpohaaGreatDoorEv
namespace Go.Proofs
open Go.Am
set_option maxRecDepth 100000
set_option linter.unusedVariables false
/-! airline/airlineref06.Find -/
/-! airline/places.Find -/
/-! airline/zone.UTC -/
/-! airline/airlineref05.UTC -/
/-! airline/flight.times -/
/-! airline/airlineref07.utc -/
/-! airline/period.Check -/
theorem period_Check_eq (lb : Nat) (n : Nat) (afro1 : Int) (ato2 : Int) (aday3 : Int) :
  top lb n F_period_Check [.agg [.int .i64 afro1, .int .i64 ato2, .int .i64 aday3]] =
 bif (decide (afro1 < 0)) then
 (some (.int .i64 12))
 else
 (bif (decide (ato2 < afro1)) then
 (some (.int .i64 12))
 else
 (bif (decide (ato2 ≥ 36525)) then
 (some (.int .i64 12))
 else
 (bif (decide ((IntKind.wrap .i64 (ato2 - afro1)) ≥ 800)) then
 (some (.int .i64 4))
 else
 (bif (decide (aday3 < 1)) then
 (some (.int .i64 2))
 else
 (bif (decide (aday3 > 127)) then
 (some (.int .i64 2))
 else
 (some (.int .i64 0))))))) := by kernel_rfl

/-! airline/airlineref04.Check -/
theorem r04_Check_eq (lb : Nat) (n : Nat) (afro1 : Int) (ato2 : Int) (aday3 : Int) :
  top lb n F_r04_Check [.agg [.int .i64 afro1, .int .i64 ato2, .int .i64 aday3]] =
 bif (decide (afro1 < 0)) then
 (some (.int .i64 12))
 else
 (bif (decide (afro1 > ato2)) then
 (some (.int .i64 12))
 else
 (bif (decide (ato2 ≥ 36525)) then
 (some (.int .i64 12))
 else
 (bif (decide ((IntKind.wrap .i64 (ato2 - afro1)) ≥ 800)) then
 (some (.int .i64 4))
 else
 (bif (decide (aday3 < 1)) then
 (some (.int .i64 2))
 else
 (bif (decide (aday3 > 127)) then
 (some (.int .i64 2))
 else
 (some (.int .i64 0))))))) := by kernel_rfl

/-! airline/calendar.Weekday -/
/-! airline/airlineref03.Weekday -/
/-! airline/period.on -/
/-! airline/airlineref04.bit -/
/-! airline/period.Has -/
/-! airline/airlineref04.Has -/
/-! airline/airlineref04.Days -/
/-! airline/flight.Legs -/
/-! airline/airlineref07.legs -/
/-! airline/flight.ordered -/
/-! airline/airlineref07.ordered -/
/-! airline/flight.minutes -/
theorem flight_minutes_eq (lb : Nat) (n : Nat) (a1 : Int) :
  top lb n F_flight_minutes [.int .i64 a1] =
 bif (decide (a1 ≥ (-1440))) then
 (some (.bool (decide (a1 < 5760))))
 else
 (some (.bool false)) := by kernel_rfl

/-! airline/airlineref07.out -/
theorem r07_out_eq (lb : Nat) (n : Nat) (a1 : Int) :
  top lb n F_r07_out [.int .i64 a1] =
 bif (decide (a1 < (-1440))) then
 (some (.bool true))
 else
 (some (.bool (decide (a1 > 5759)))) := by kernel_rfl

end Go.Proofs
