/- What the functions of package text and of its reference answer: quoted texts are read. Conditions: as each says. -/
import Derived.Test.YtdcpdknginpohaaGreatDoorRt
set_option linter.unusedSimpArgs false
namespace Go.Proofs
open Go.Am
variable (lb : Nat)
end Go.Proofs
