/- What the functions of package text and of its reference answer: quoted texts. Conditions: as each says. -/
import Derived.Test.YtdcpdknginpohaaGreatDoorG1
import Derived.Test.YtdcpdknginpohaaGreatDoorRk
set_option linter.unusedSimpArgs false
namespace Go.Proofs
open Go.Am
variable (lb : Nat)
end Go.Proofs
