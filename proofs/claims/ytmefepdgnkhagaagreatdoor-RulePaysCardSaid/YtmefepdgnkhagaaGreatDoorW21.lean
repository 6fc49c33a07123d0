/- awake of chapter 21 answers true: run in the kernel. Conditions: none. -/
import Derived.Test.YtmefepdgnkhagaaGreatDoorNh
import Derived.Test.YtmefepdgnkhagaaGreatDoorRet
namespace Go.Proofs
open Go.Am
set_option maxRecDepth 100000
theorem awake21n (lb n : Nat) : callN Tryz.prog KK (L (lb + 2)) (n + 60) F_l21_awake [] = some (.bool true) := by kernel_rfl
theorem awake21_ok (lb : Nat) : Ret (lb + 2) F_l21_awake [] (.bool true) := Evt.from 60 fun n => by
  show callF Tryz.prog KK (L (lb + 2)) (n + 60) F_l21_awake [] = _
  rw [callN_eq]
  exact awake21n lb n
end Go.Proofs
