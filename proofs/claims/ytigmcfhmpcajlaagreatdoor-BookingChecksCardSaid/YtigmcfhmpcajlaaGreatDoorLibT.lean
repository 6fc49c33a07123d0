/- The library, and what walks say of functions of the program. Conditions: none. -/
import Derived.Test.YtigmcfhmpcajlaaGreatDoorCs
namespace Go.Proofs
open Go.Am Go.RowKit
abbrev topLb : Nat := 1
theorem Qvc (lb : Nat) (hlb : lb ≤ topLb) : Qpg Tryz.prog KK.gl (Tw lb) (L lb) := by
 exact QuM lb hlb
end Go.Proofs
