/- What iterators yield: slices.Chunk. Conditions: as each says. -/
import Derived.Test.YtmpbijffaepkdaaGreatDoorAmC
import Derived.Test.YtmpbijffaepkdaaGreatDoorEv
import Derived.Test.YtmpbijffaepkdaaGreatDoorCk
set_option linter.unusedVariables false
namespace Go.Proofs
open Go.RowKit Go.Am
theorem Qnd {B : Nat} {W0 : Base} (hK : W0.K = KK) : Qkc Tryz.prog B W0 := by
 intro f it hit
 rw [hK] at hit
 have hit : Qlh f = some it := hit
 unfold Qlh at hit
 cases hit
end Go.Proofs
