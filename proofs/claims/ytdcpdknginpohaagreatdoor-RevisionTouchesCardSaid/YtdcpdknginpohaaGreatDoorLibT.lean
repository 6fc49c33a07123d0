/- The library, and what walks say of functions of the program. Conditions: none. -/
import Derived.Test.YtdcpdknginpohaaGreatDoorCs
namespace Go.Proofs
open Go.Am Go.RowKit
abbrev topLb : Nat := 1
theorem QuJ (lb : Nat) (hlb : lb ≤ topLb) : QoL Tryz.prog KK.gl (Tw lb) (L lb) := by
 exact Quf lb hlb
end Go.Proofs
