/- Chapter 7 on plain data: legs and segments on a day, by the program and by its reference. Conditions: as each says. -/
import Derived.Test.YtdcpdknginpohaaGreatDoorKC
import Derived.Test.YtdcpdknginpohaaGreatDoorGd
set_option linter.unusedSimpArgs false
namespace Go.Proofs
open Go.Am
variable (lb : Nat)
end Go.Proofs
