/- awake of chapter 10 answers true: run in the kernel. Conditions: none. -/
import Derived.Test.YtdcpdknginpohaaGreatDoorNh
import Derived.Test.YtdcpdknginpohaaGreatDoorRet
namespace Go.Proofs
open Go.Am
set_option maxRecDepth 100000
theorem Qx7 (lb n : Nat) : QqD Tryz.prog KK (L lb) (n + 60) Qeg [] = some (.bool true) := by kernel_rfl
theorem QpY (lb : Nat) : Ret lb Qeg [] (.bool true) := Evt.from 60 fun n => by
 show Qdj Tryz.prog KK (L lb) (n + 60) Qeg [] = _
 rw [Qun]
 exact Qx7 lb n
end Go.Proofs
