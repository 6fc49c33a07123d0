/- knows of chapter 20 answers true: run in the kernel. Conditions: none. -/
import Derived.Test.YtbdclhadjcfadaaGreatDoorNh
import Derived.Test.YtbdclhadjcfadaaGreatDoorRet
namespace Go.Proofs
open Go.Am
set_option maxRecDepth 100000
theorem Qu4 (lb n : Nat) : QnG Tryz.prog KK (L (lb + 2)) (n + 60) QbM [] = some (.bool true) := by kernel_rfl
theorem Qtd (lb : Nat) : Ret (lb + 2) QbM [] (.bool true) := Evt.from 60 fun n => by
 show Qbm Tryz.prog KK (L (lb + 2)) (n + 60) QbM [] = _
 rw [QqW]
 exact Qu4 lb n
end Go.Proofs
