/- What the reference of package text answers: quoted texts are read. Conditions: as each says. -/
import Derived.Test.YtdcpdknginpohaaGreatDoorRu
set_option linter.unusedSimpArgs false
namespace Go.Proofs
open Go.Am
variable (lb : Nat)
end Go.Proofs
