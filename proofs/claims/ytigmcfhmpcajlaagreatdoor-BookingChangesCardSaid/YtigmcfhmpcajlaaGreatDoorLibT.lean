/- The library, and what walks say of functions of the program. Conditions: none. -/
import Derived.Test.YtigmcfhmpcajlaaGreatDoorCs
namespace Go.Proofs
open Go.Am Go.RowKit
abbrev topLb:Nat:=1
theorem libOK (lb:Nat) (hlb:lb≤topLb):QnT Tryz.prog KK.gl (Tw lb) (L lb):=by
 exact QzH lb hlb
end Go.Proofs
