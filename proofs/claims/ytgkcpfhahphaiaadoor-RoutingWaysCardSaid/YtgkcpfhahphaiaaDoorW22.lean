/- awake of chapter 22 answers true: run in the kernel. Conditions: none. -/
import Derived.Test.YtgkcpfhahphaiaaDoorNh
import Derived.Test.YtgkcpfhahphaiaaDoorRet
namespace Go.Proofs
open Go.Am
set_option maxRecDepth 100000
theorem awake22t (n : Nat) : callN Tryd.prog KK (L true) (n + 60) F_l22_awake [] = some (.bool true) := by kernel_rfl
theorem awake22f (n : Nat) : callN Tryd.prog KK (L false) (n + 60) F_l22_awake [] = some (.bool true) := by kernel_rfl
theorem awake22_ok (lb : Bool) : Ret lb F_l22_awake [] (.bool true) := Evt.from 60 fun n => by
  show callF Tryd.prog KK (L lb) (n + 60) F_l22_awake [] = _
  rw [callN_eq]
  cases lb
  · exact awake22f n
  · exact awake22t n
end Go.Proofs
