/- The library, and what walks say of functions of the program. Conditions: none. -/
import Derived.Test.YtdcpdknginpohaaGreatDoorCs
namespace Go.Proofs
open Go.Am Go.RowKit
abbrev topLb : Nat := 1
theorem Qze (lb : Nat) (hlb : lb ≤ topLb) : Qr0 Tryz.prog KK.gl (Tw lb) (L lb) := by
 exact QyA lb hlb
end Go.Proofs
