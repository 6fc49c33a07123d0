/- Equations of functions, printed by program. Conditions: none. -/
import Derived.Test.YtbdclhadjcfadaaGreatDoorEv
namespace Go.Proofs
open Go.Am
set_option maxRecDepth 100000
set_option linter.unusedVariables false
theorem Qm5 (lb n) (jz jB jA : Int) :
 top lb n QbT [.agg [.int .i64 jz, .int .i64 jB, .int .i64 jA]] =
 bif (decide (jz < 0)) then
 (some (.int .i64 12))
 else
 (bif (decide (jB < jz)) then
 (some (.int .i64 12))
 else
 (bif (decide (jB ≥ 36525)) then
 (some (.int .i64 12))
 else
 (bif (decide ((IntKind.wrap .i64 (jB - jz)) ≥ 800)) then
 (some (.int .i64 4))
 else
 (bif (decide (jA < 1)) then
 (some (.int .i64 2))
 else
 (bif (decide (jA > 127)) then
 (some (.int .i64 2))
 else
 (some (.int .i64 0))))))) := by kernel_rfl
end Go.Proofs
