/- awake of chapter 10 answers true: run in the kernel. Conditions: none. -/
import Derived.Test.YtdcpdknginpohaaGreatDoorNh
import Derived.Test.YtdcpdknginpohaaGreatDoorRet
namespace Go.Proofs
open Go.Am
set_option maxRecDepth 100000
theorem Qxq (lb n : Nat) : QrY Tryz.prog KK (L lb) (n + 60) QcW [] = some (.bool true) := by kernel_rfl
theorem QvC (lb : Nat) : Ret lb QcW [] (.bool true) := Evt.from 60 fun n => by
 show Qda Tryz.prog KK (L lb) (n + 60) QcW [] = _
 rw [QwE]
 exact Qxq lb n
end Go.Proofs
