/- Equations of functions, printed by program. Conditions: none. -/
import Derived.Test.YtdcpdknginpohaaGreatDoorEv
namespace Go.Proofs
open Go.Am
set_option maxRecDepth 100000
set_option linter.unusedVariables false
theorem QpR (lb n) (jt jA ju : Int) :
 top lb n Qdn [.agg [.int .i64 jt, .int .i64 jA, .int .i64 ju]] =
 bif (decide (jt < 0)) then
 (some (.int .i64 12))
 else
 (bif (decide (jA < jt)) then
 (some (.int .i64 12))
 else
 (bif (decide (jA ≥ 36525)) then
 (some (.int .i64 12))
 else
 (bif (decide ((IntKind.wrap .i64 (jA - jt)) ≥ 800)) then
 (some (.int .i64 4))
 else
 (bif (decide (ju < 1)) then
 (some (.int .i64 2))
 else
 (bif (decide (ju > 127)) then
 (some (.int .i64 2))
 else
 (some (.int .i64 0))))))) := by kernel_rfl
theorem Qte (lb n) (jt jA ju : Int) :
 top lb n Qcf [.agg [.int .i64 jt, .int .i64 jA, .int .i64 ju]] =
 bif (decide (jt < 0)) then
 (some (.int .i64 12))
 else
 (bif (decide (jt > jA)) then
 (some (.int .i64 12))
 else
 (bif (decide (jA ≥ 36525)) then
 (some (.int .i64 12))
 else
 (bif (decide ((IntKind.wrap .i64 (jA - jt)) ≥ 800)) then
 (some (.int .i64 4))
 else
 (bif (decide (ju < 1)) then
 (some (.int .i64 2))
 else
 (bif (decide (ju > 127)) then
 (some (.int .i64 2))
 else
 (some (.int .i64 0))))))) := by kernel_rfl
theorem Qnu (lb n) (a1 : Int) :
 top lb n QbY [.int .i64 a1] =
 bif (decide (a1 ≥ (-1440))) then
 (some (.bool (decide (a1 < 5760))))
 else
 (some (.bool false)) := by kernel_rfl
theorem Qvo (lb n) (a1 : Int) :
 top lb n Qdh [.int .i64 a1] =
 bif (decide (a1 < (-1440))) then
 (some (.bool true))
 else
 (some (.bool (decide (a1 > 5759)))) := by kernel_rfl
end Go.Proofs
