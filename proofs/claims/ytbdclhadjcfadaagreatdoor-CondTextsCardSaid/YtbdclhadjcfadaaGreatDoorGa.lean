/- Equations of functions, printed by program. Conditions: none. -/
import Derived.Test.YtbdclhadjcfadaaGreatDoorEv
namespace Go.Proofs
open Go.Am
set_option maxRecDepth 100000
set_option linter.unusedVariables false
theorem Qrg (lb n) (jo jx jp:Int) :
 top lb n Qcl [.agg [.int .i64 jo, .int .i64 jx, .int .i64 jp]] =
 bif (decide (jo < 0)) then
 (some (.int .i64 12))
 else
 (bif (decide (jx < jo)) then
 (some (.int .i64 12))
 else
 (bif (decide (jx ≥ 36525)) then
 (some (.int .i64 12))
 else
 (bif (decide ((IntKind.wrap .i64 (jx - jo)) ≥ 800)) then
 (some (.int .i64 4))
 else
 (bif (decide (jp < 1)) then
 (some (.int .i64 2))
 else
 (bif (decide (jp > 127)) then
 (some (.int .i64 2))
 else
 (some (.int .i64 0))))))) := by kernel_rfl
theorem Qvk (lb n) (jo jx jp:Int) :
 top lb n Qdy [.agg [.int .i64 jo, .int .i64 jx, .int .i64 jp]] =
 bif (decide (jo < 0)) then
 (some (.int .i64 12))
 else
 (bif (decide (jo > jx)) then
 (some (.int .i64 12))
 else
 (bif (decide (jx ≥ 36525)) then
 (some (.int .i64 12))
 else
 (bif (decide ((IntKind.wrap .i64 (jx - jo)) ≥ 800)) then
 (some (.int .i64 4))
 else
 (bif (decide (jp < 1)) then
 (some (.int .i64 2))
 else
 (bif (decide (jp > 127)) then
 (some (.int .i64 2))
 else
 (some (.int .i64 0))))))) := by kernel_rfl
end Go.Proofs
