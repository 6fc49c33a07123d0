/- Equations of functions, printed by program. Conditions: none. -/
import Derived.Test.YtdcpdknginpohaaGreatDoorEv
namespace Go.Proofs
open Go.Am
set_option maxRecDepth 100000
set_option linter.unusedVariables false
theorem Qto (lb n) (jc : Int) (jh : LB) (jj jb jd ja jk : Int) (aequ9 : LB) (jg) (aleg11 : LL) :
 top lb n Qj9 [.agg [.int .i64 jc, .str jh, .int .i64 jj, .int .i64 jb, .int .i64 jd, .int .i64 ja, .int .i64 jk, .str aequ9, .list jg aleg11]] =
 bif (decide ((aequ9.length : Int) ≤ 100)) then
 (optO (C lb n QcK [.agg [.list true [], .list true []], .agg [.str jh, .int .i64 0, .int .i64 0, .int .i64 0, .int .i64 0, .list jg aleg11]]) fun jC =>
 optO (CV.asB jC) fun j9 =>
 some (.bool (!j9)))
 else
 (some (.bool false)) := by kernel_rfl
end Go.Proofs
