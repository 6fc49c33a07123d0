/- awake of chapter 10 answers true: run in the kernel. Conditions: none. -/
import Derived.Test.YtdcpdknginpohaaGreatDoorNh
import Derived.Test.YtdcpdknginpohaaGreatDoorRet
namespace Go.Proofs
open Go.Am
set_option maxRecDepth 100000
theorem Qx8 (lb n : Nat) : QpR Tryz.prog KK (L lb) (n + 60) Qe7 [] = some (.bool true) := by kernel_rfl
theorem QwG (lb : Nat) : Ret lb Qe7 [] (.bool true) := Evt.from 60 fun n => by
 show Qdk Tryz.prog KK (L lb) (n + 60) Qe7 [] = _
 rw [Quj]
 exact Qx8 lb n
end Go.Proofs
