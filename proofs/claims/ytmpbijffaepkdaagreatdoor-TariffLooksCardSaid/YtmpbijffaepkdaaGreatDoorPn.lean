/- Numbers as texts, on plain data. Conditions: none; definitions and laws. -/
import Derived.Test.YtmpbijffaepkdaaGreatDoorPt
import Derived.Lib.AtoiAll
import Derived.Lib.ItoaNum
set_option linter.unusedSimpArgs false
namespace Go.Proofs
def signed (s : Bs) : Bool := s.head? == some 45
end Go.Proofs
