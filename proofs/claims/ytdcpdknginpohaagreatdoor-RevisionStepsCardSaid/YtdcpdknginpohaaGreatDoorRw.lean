/- What the functions of package text and of its reference answer: lines. Conditions: as each says. -/
import Derived.Test.YtdcpdknginpohaaGreatDoorRc
import Derived.Test.YtdcpdknginpohaaGreatDoorRv
import Derived.Laws.RangeAny
import Derived.Laws.RangeString
set_option linter.unusedSimpArgs false
namespace Go.Proofs
open Go.Am
variable (lb : Nat)
end Go.Proofs
