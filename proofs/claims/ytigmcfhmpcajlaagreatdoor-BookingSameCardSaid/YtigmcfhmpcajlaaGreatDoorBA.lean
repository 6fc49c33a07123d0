/- Chapter 35: lists of numbers on plain data: index, contains; the groups' numbers lie in their list. Conditions: as each says. -/
import Derived.Test.YtigmcfhmpcajlaaGreatDoorRk
import Derived.Test.YtigmcfhmpcajlaaGreatDoorGa
import Derived.Test.YtigmcfhmpcajlaaGreatDoorWg
set_option linter.unusedSimpArgs false
set_option linter.unusedVariables false
namespace Go.Proofs
open Go.Am
variable (lb : Nat)
def icv (x : Int) : List CV := [.int .i64 x]
end Go.Proofs
set_option linter.unusedSimpArgs false
set_option linter.unusedVariables false
namespace Go.Proofs
open Go.Am
variable (lb : Nat)
end Go.Proofs
