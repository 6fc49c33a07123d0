/- The library, and what walks say of functions of the program. Conditions: none. -/
import Derived.Test.YtdcpdknginpohaaGreatDoorCs
namespace Go.Proofs
open Go.Am Go.RowKit
abbrev topLb : Nat := 1
theorem QwK (lb : Nat) (hlb : lb ≤ topLb) : QpK Tryz.prog KK.gl (Tw lb) (L lb) := by
 exact Qwa lb hlb
end Go.Proofs
