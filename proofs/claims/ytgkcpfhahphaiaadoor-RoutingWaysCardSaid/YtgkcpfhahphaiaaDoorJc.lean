/- Facts of the whole program, each by itself (the kernel's memory does not hold two of them). Conditions: none. -/
import Derived.Test.YtgkcpfhahphaiaaDoorJb
import Derived.Test.YtgkcpfhahphaiaaDoorTie
import Derived.Test.YtgkcpfhahphaiaaDoorCards
import Derived.SevenTiedAt
namespace Go.Proofs.YtgkcpfhahphaiaaDoor
open Go.ChangeShapes Go.WideShapes Go.ChangeAt Go.RowKit Go.Am
theorem sh_rowed : mapsRowed Tryd.prog = true := by kernel_rfl
theorem sh_stops : (Tryd.prog.stops == []) = true := by kernel_rfl
theorem sh_knobs : (Tryd.prog.stopKnobs == []) = true := by kernel_rfl
theorem sh_keys : (true == Tryd.prog.plainKeys) = true := by kernel_rfl
theorem sh_heard : Tryd.prog.stopsHeard = true := by kernel_rfl
theorem sh_enter : Tryd.prog.mayEnter = true := by kernel_rfl
theorem sh_lifted : (false == Tryd.prog.liftsFinal) = true := by kernel_rfl
theorem sh_make : (Tryd.prog.make == some Rows.routingWaysRow.make) = true := by kernel_rfl
theorem sh_looks : false = Tryd.prog.looks [] := by kernel_rfl
theorem sh_main : Tryd.prog.mainIs = some (true, "a1e032f6ba2ebdfd539ff1127e69bd776be125fcad6672e736718ec30831f576".toList) := by kernel_rfl
theorem reach_le : reachBytes ≤ 281474976710656 := by decide
theorem tyF_cons {ty : TypeId → List CV → Prop} {t : TypeId} {ts : List TypeId} {l : List CV} (h : TyF ty (t :: ts) l) : ∃ p r, l = p ++ r ∧ ty t p ∧ TyF ty ts r := h
theorem tyF_nil {ty : TypeId → List CV → Prop} {l : List CV} (h : TyF ty [] l) : l = [] := h
end Go.Proofs.YtgkcpfhahphaiaaDoor
