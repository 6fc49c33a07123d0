/- The library, and what walks say of functions of the program. Conditions: none. -/
import Derived.Test.YtigmcfhmpcajlaaGreatDoorCs
namespace Go.Proofs
open Go.Am Go.RowKit
abbrev topLb : Nat := 1
theorem QBp (lb : Nat) (hlb : lb ≤ topLb) : Qs2 Tryz.prog KK.gl (Tw lb) (L lb) := by
 exact QAA lb hlb
end Go.Proofs
