/- The library, and what walks say of functions of the program. Conditions: none. -/
import Derived.Test.YtmpbijffaepkdaaGreatDoorCs
namespace Go.Proofs
open Go.Am Go.RowKit
abbrev topLb : Nat := 1
theorem Qn6 (lb : Nat) (hlb : lb ≤ topLb) : Qjq Tryz.prog KK.gl (Tw lb) (L lb) := by
 exact QnP lb hlb
end Go.Proofs
