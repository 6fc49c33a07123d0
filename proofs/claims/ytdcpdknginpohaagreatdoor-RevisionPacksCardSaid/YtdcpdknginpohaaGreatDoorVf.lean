/- Equations of functions, printed by program. Conditions: none. -/
import Derived.Test.YtdcpdknginpohaaGreatDoorEv
namespace Go.Proofs
open Go.Am
set_option maxRecDepth 100000
set_option linter.unusedVariables false
theorem QqQ (lb n jh) (a2 : LL) (j1) (b4 : LL) (c5 : LB) (d6 e7 : Int) :
 top lb n Qis [.list jh a2, .list j1 b4, .str c5, .int .i64 d6, .int .i64 e7] =
 optO (C lb n Qce [.list jh a2, .str c5, .int .i64 d6, .int .i64 e7]) fun r9 =>
 optO (CV.asT r9) fun gt =>
 optO (gt[0]?) fun jC =>
 optO (CV.asT r9) fun kR =>
 optO (kR[1]?) fun jS =>
 optO (CV.asA jC) fun c14 =>
 chkO (c14.length == 6) (
 optO (c14[0]?) fun jO =>
 optO (c14[1]?) fun n7 =>
 optO (c14[2]?) fun j2 =>
 optO (c14[3]?) fun jP =>
 optO (c14[4]?) fun jU =>
 optO (c14[5]?) fun jR =>
 optO (C lb n Qce [.list j1 b4, .str c5, .int .i64 d6, .int .i64 e7]) fun oI =>
 optO (CV.asT oI) fun n6 =>
 optO (n6[0]?) fun yY =>
 optO (CV.asT oI) fun n8 =>
 optO (n8[1]?) fun kF =>
 optO (CV.asA yY) fun c27 =>
 chkO (c27.length == 6) (
 optO (c27[0]?) fun gS =>
 optO (c27[1]?) fun jG =>
 optO (c27[2]?) fun j0 =>
 optO (c27[3]?) fun jF =>
 optO (c27[4]?) fun jB =>
 optO (c27[5]?) fun jJ =>
 optO (CV.asB jS) fun yB =>
 optO (CV.asB kF) fun wm =>
 bif (yB == wm) then
 (optO (C lb n QaS [jR, jJ]) fun kA =>
 some (kA))
 else
 (some (.bool false)))) := by kernel_rfl
end Go.Proofs
