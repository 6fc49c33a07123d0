/- Iterators as the kit walks them: slices.Chunk of texts by five. Conditions: as each says. -/
import Derived.Test.YtmpbijffaepkdaaGreatDoorAmC
set_option linter.unusedVariables false
namespace Go.Shelf
end Go.Shelf
namespace Go.Proofs
open Go.RowKit Go.Shelf Go.Am
end Go.Proofs
