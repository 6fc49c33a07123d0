/- What library functions give: none is reached. Conditions: none. -/
import Derived.Test.YtlfopiicpgggfaaAm
import Derived.Test.YtlfopiicpgggfaaIds
namespace Go.Proofs
open Go.Am
def L (_ : Bool) : FuncId → Option (List CV → Option CV) := fun _ => none
end Go.Proofs
