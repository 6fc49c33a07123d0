/- awake of chapter 7 answers true: run in the kernel. Conditions: none. -/
import Derived.Test.YtdcpdknginpohaaGreatDoorNh
import Derived.Test.YtdcpdknginpohaaGreatDoorRet
namespace Go.Proofs
open Go.Am
set_option maxRecDepth 100000
end Go.Proofs
