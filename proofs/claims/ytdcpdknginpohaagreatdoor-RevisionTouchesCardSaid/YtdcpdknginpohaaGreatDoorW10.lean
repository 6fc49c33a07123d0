/- awake of chapter 10 answers true: run in the kernel. Conditions: none. -/
import Derived.Test.YtdcpdknginpohaaGreatDoorNh
import Derived.Test.YtdcpdknginpohaaGreatDoorRet
namespace Go.Proofs
open Go.Am
set_option maxRecDepth 100000
theorem QsY (lb n : Nat) : QoG Tryz.prog KK (L lb) (n + 60) Qdm [] = some (.bool true) := by kernel_rfl
theorem Ql0 (lb : Nat) : Ret lb Qdm [] (.bool true) := Evt.from 60 fun n => by
 show Qch Tryz.prog KK (L lb) (n + 60) Qdm [] = _
 rw [QsX]
 exact QsY lb n
end Go.Proofs
