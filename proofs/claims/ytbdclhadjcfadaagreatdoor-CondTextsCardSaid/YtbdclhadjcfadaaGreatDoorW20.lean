/- knows of chapter 20 answers true: run in the kernel. Conditions: none. -/
import Derived.Test.YtbdclhadjcfadaaGreatDoorNh
import Derived.Test.YtbdclhadjcfadaaGreatDoorRet
namespace Go.Proofs
open Go.Am
set_option maxRecDepth 100000
theorem Qz5 (lb n:Nat):Qru Tryz.prog KK (L (lb + 2)) (n + 60) QeW [] = some (.bool true) := by kernel_rfl
theorem QxW (lb:Nat):Ret (lb + 2) QeW [] (.bool true) := Evt.from 60 fun n => by
 show Qbw Tryz.prog KK (L (lb + 2)) (n + 60) QeW [] = _
 rw [QuZ]
 exact Qz5 lb n
end Go.Proofs
