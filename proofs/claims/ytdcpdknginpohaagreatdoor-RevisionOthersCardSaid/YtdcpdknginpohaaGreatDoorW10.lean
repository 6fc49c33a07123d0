/- awake of chapter 10 answers true: run in the kernel. Conditions: none. -/
import Derived.Test.YtdcpdknginpohaaGreatDoorNh
import Derived.Test.YtdcpdknginpohaaGreatDoorRet
namespace Go.Proofs
open Go.Am
set_option maxRecDepth 100000
theorem Qxq (lb n : Nat) : QpC Tryz.prog KK (L lb) (n + 60) Qbd [] = some (.bool true) := by kernel_rfl
theorem QvJ (lb : Nat) : Ret lb Qbd [] (.bool true) := Evt.from 60 fun n => by
 show Qdh Tryz.prog KK (L lb) (n + 60) Qbd [] = _
 rw [Qtk]
 exact Qxq lb n
end Go.Proofs
