/- awake of chapter 36 answers true: run in the kernel. Conditions: none. -/
import Derived.Test.YtiffhngfneikoaaDoorNh
import Derived.Test.YtiffhngfneikoaaDoorRet
namespace Go.Proofs
open Go.Am
set_option maxRecDepth 100000
theorem awake36f (n : Nat) : callN Tryd.prog KK (L false) (n + 60) F_l36_awake [] = some (.bool true) := by kernel_rfl
theorem awake36t (n : Nat) : callN Tryd.prog KK (L true) (n + 60) F_l36_awake [] = some (.bool true) := by kernel_rfl
theorem awake36_ok (lb : Bool) : Ret lb F_l36_awake [] (.bool true) := Evt.from 60 fun n => by
  show callF Tryd.prog KK (L lb) (n + 60) F_l36_awake [] = _
  rw [callN_eq]
  cases lb
  · exact awake36f n
  · exact awake36t n
end Go.Proofs
