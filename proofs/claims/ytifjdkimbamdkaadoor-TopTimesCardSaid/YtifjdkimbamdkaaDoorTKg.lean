/- Chapter 7 on plain data: Check by the program. Conditions: as each says. -/
import Derived.Test.YtifjdkimbamdkaaDoorTKf
set_option linter.unusedSimpArgs false
namespace Go.Proofs
open Go.Am
variable (lb : Bool)
end Go.Proofs
