/- awake of chapter 10 answers true: run in the kernel. Conditions: none. -/
import Derived.Test.YtdcpdknginpohaaGreatDoorNh
import Derived.Test.YtdcpdknginpohaaGreatDoorRet
namespace Go.Proofs
open Go.Am
set_option maxRecDepth 100000
theorem Quv (lb n : Nat) : QpG Tryz.prog KK (L lb) (n + 60) QdE [] = some (.bool true) := by kernel_rfl
theorem QsX (lb : Nat) : Ret lb QdE [] (.bool true) := Evt.from 60 fun n => by
 show Qco Tryz.prog KK (L lb) (n + 60) QdE [] = _
 rw [Qud]
 exact Quv lb n
end Go.Proofs
