/- Facts of the whole program, each by itself (the kernel's memory does not hold two of them). Conditions: none. -/
import Derived.Test.YtiffhngfneikoaaDoorJb
import Derived.Test.YtiffhngfneikoaaDoorTie
import Derived.Test.YtiffhngfneikoaaDoorCards
import Derived.SevenTiedAt
namespace Go.Proofs.YtiffhngfneikoaaDoor
open Go.ChangeShapes Go.WideShapes Go.ChangeAt Go.RowKit Go.Am
theorem sh_rowed : mapsRowed Tryd.prog = true := by kernel_rfl
theorem sh_stops : (Tryd.prog.stops == []) = true := by kernel_rfl
theorem sh_knobs : (Tryd.prog.stopKnobs == []) = true := by kernel_rfl
theorem sh_keys : (true == Tryd.prog.plainKeys) = true := by kernel_rfl
theorem sh_heard : Tryd.prog.stopsHeard = true := by kernel_rfl
theorem sh_enter : Tryd.prog.mayEnter = true := by kernel_rfl
theorem sh_lifted : (false == Tryd.prog.liftsFinal) = true := by kernel_rfl
theorem sh_make : (Tryd.prog.make == some Rows.textQuotesRow.make) = true := by kernel_rfl
theorem sh_looks : true = Tryd.prog.looks [] := by kernel_rfl
theorem sh_main : Tryd.prog.mainIs = some (true, "169db74cd3f551dd55bb08887a5c8c35f9aed73eef7fae6cc9707762c104c8e1".toList) := by kernel_rfl
end Go.Proofs.YtiffhngfneikoaaDoor
