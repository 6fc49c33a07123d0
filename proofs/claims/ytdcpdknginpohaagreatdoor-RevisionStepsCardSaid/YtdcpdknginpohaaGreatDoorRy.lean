/- What the reference of package text answers: lines are read. Conditions: as each says. -/
import Derived.Test.YtdcpdknginpohaaGreatDoorRw
set_option linter.unusedSimpArgs false
namespace Go.Proofs
open Go.Am
variable (lb : Nat)
end Go.Proofs
