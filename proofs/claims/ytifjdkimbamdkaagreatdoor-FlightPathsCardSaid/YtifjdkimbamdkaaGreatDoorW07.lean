/- awake of chapter 7 answers true: run in the kernel. Conditions: none. -/
import Derived.Test.YtifjdkimbamdkaaGreatDoorNh
import Derived.Test.YtifjdkimbamdkaaGreatDoorRet
namespace Go.Proofs
open Go.Am
set_option maxRecDepth 100000
theorem awake07f (n : Nat) : callN Tryz.prog KK (L false) (n + 60) F_l07_awake [] = some (.bool true) := by kernel_rfl
theorem awake07t (n : Nat) : callN Tryz.prog KK (L true) (n + 60) F_l07_awake [] = some (.bool true) := by kernel_rfl
theorem awake07_ok (lb : Bool) : Ret lb F_l07_awake [] (.bool true) := Evt.from 60 fun n => by
  show callF Tryz.prog KK (L lb) (n + 60) F_l07_awake [] = _
  rw [callN_eq]
  cases lb
  · exact awake07f n
  · exact awake07t n
end Go.Proofs
