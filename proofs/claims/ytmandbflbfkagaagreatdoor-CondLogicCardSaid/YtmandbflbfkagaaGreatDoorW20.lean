/- knows of chapter 20 answers true: run in the kernel. Conditions: none. -/
import Derived.Test.YtmandbflbfkagaaGreatDoorNh
import Derived.Test.YtmandbflbfkagaaGreatDoorRet
namespace Go.Proofs
open Go.Am
set_option maxRecDepth 100000
theorem knows20n (lb n : Nat) : callN Tryz.prog KK (L (lb + 2)) (n + 60) F_l20_knows [] = some (.bool true) := by kernel_rfl
theorem knows20_ok (lb : Nat) : Ret (lb + 2) F_l20_knows [] (.bool true) := Evt.from 60 fun n => by
  show callF Tryz.prog KK (L (lb + 2)) (n + 60) F_l20_knows [] = _
  rw [callN_eq]
  exact knows20n lb n
end Go.Proofs
