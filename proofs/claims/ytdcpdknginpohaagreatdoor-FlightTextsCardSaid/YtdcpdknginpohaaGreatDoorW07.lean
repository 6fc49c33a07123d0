/- awake of chapter 7 answers true: run in the kernel. Conditions: none. -/
import Derived.Test.YtdcpdknginpohaaGreatDoorNh
import Derived.Test.YtdcpdknginpohaaGreatDoorRet
namespace Go.Proofs
open Go.Am
set_option maxRecDepth 100000
theorem awake07n (lb n : Nat) : callN Tryz.prog KK (L lb) (n + 60) F_l07_awake [] = some (.bool true) := by kernel_rfl
theorem awake07_ok (lb : Nat) : Ret lb F_l07_awake [] (.bool true) := Evt.from 60 fun n => by
  show callF Tryz.prog KK (L lb) (n + 60) F_l07_awake [] = _
  rw [callN_eq]
  exact awake07n lb n
end Go.Proofs
