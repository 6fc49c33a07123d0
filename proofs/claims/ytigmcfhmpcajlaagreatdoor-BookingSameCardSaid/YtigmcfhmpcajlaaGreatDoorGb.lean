/- Equations of functions, printed by program. Conditions: none. -/
import Derived.Test.YtigmcfhmpcajlaaGreatDoorEv
namespace Go.Proofs
open Go.Am
set_option maxRecDepth 100000
set_option linter.unusedVariables false
theorem Qjl (lb n) (kv kw vt : LB) :
 top lb n QcW [.agg [.str kv, .str kw, .str vt]] =
 some (.bool (vt == [73, 78, 70])) := by kernel_rfl
end Go.Proofs
