/- What iterators yield: slices.Chunk. Conditions: as each says. -/
import Derived.Test.YtbdclhadjcfadaaGreatDoorAmC
import Derived.Test.YtbdclhadjcfadaaGreatDoorEv
import Derived.Test.YtbdclhadjcfadaaGreatDoorCk
set_option linter.unusedVariables false
namespace Go.Proofs
open Go.RowKit Go.Am
theorem Qwo {B : Nat} {W0 : Base} (hK : W0.K = KK) : Qqx Tryz.prog B W0 := by
 intro f it hit
 rw [hK] at hit
 have hit : Qsz f = some it := hit
 unfold Qsz at hit
 cases hit
end Go.Proofs
