/- What iterators yield: slices.Chunk. Conditions: as each says. -/
import Derived.Test.YtbdclhadjcfadaaGreatDoorAmC
import Derived.Test.YtbdclhadjcfadaaGreatDoorEv
import Derived.Test.YtbdclhadjcfadaaGreatDoorCk
set_option linter.unusedVariables false
namespace Go.Proofs
open Go.RowKit Go.Am
theorem QBB {B:Nat} {W0:Base} (hK:W0.K = KK):Qvo Tryz.prog B W0 := by
 intro f it hit
 rw [hK] at hit
 have hit:QxM f = some it := hit
 unfold QxM at hit
 cases hit
end Go.Proofs
