/- awake of chapter 35's part of the timetables answers true: run in the kernel. Conditions: none. -/
import Derived.Test.YtigmcfhmpcajlaaGreatDoorNh
import Derived.Test.YtigmcfhmpcajlaaGreatDoorRet
namespace Go.Proofs
open Go.Am
set_option maxRecDepth 100000
theorem Qps (n : Nat) : Qm3 Tryz.prog KK (L 0) (n + 60) QbB [] = some (.bool true) := by kernel_rfl
theorem topAwake_ok : Ret 0 QbB [] (.bool true) := Evt.from 60 fun n => by
 show Qb4 Tryz.prog KK (L 0) (n + 60) QbB [] = _
 rw [QqJ]
 exact Qps n
end Go.Proofs
