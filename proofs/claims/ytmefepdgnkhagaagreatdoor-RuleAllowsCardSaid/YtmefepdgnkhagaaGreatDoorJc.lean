/- Facts of the whole program, each by itself (the kernel's memory does not hold two of them). Conditions: none. -/
import Derived.Test.YtmefepdgnkhagaaGreatDoorJb
import Derived.Test.YtmefepdgnkhagaaGreatDoorTie
import Derived.Test.YtmefepdgnkhagaaGreatDoorCards
import Derived.SevenTiedAt
namespace Go.Proofs.YtmefepdgnkhagaaGreatDoor
open Go.ChangeShapes Go.WideShapes Go.ChangeAt Go.RowKit Go.Am
theorem sh_rowed : mapsRowed Tryz.prog = true := by kernel_rfl
theorem sh_stops : (Tryz.prog.stops == []) = true := by kernel_rfl
theorem sh_knobs : (Tryz.prog.stopKnobs == []) = true := by kernel_rfl
theorem sh_keys : (true == Tryz.prog.plainKeys) = true := by kernel_rfl
theorem sh_heard : Tryz.prog.stopsHeard = true := by kernel_rfl
theorem sh_enter : Tryz.prog.mayEnter = true := by kernel_rfl
theorem sh_lifted : (false == Tryz.prog.liftsFinal) = true := by kernel_rfl
theorem sh_make : (Tryz.prog.make == some Rows.ruleChecksRow.make) = true := by kernel_rfl
theorem sh_looks : true = Tryz.prog.looks [] := by kernel_rfl
theorem sh_main : Tryz.prog.mainIs = some (true, "6e6382b7bca30ce046227d79d6514d34abf61014a1b910034225d085734a6eeb".toList) := by kernel_rfl
theorem reach_le : reachBytes ≤ 281474976710656 := by decide
theorem tyF_cons {ty : TypeId → List CV → Prop} {t : TypeId} {ts : List TypeId} {l : List CV} (h : TyF ty (t :: ts) l) : ∃ p r, l = p ++ r ∧ ty t p ∧ TyF ty ts r := h
theorem tyF_nil {ty : TypeId → List CV → Prop} {l : List CV} (h : TyF ty [] l) : l = [] := h
end Go.Proofs.YtmefepdgnkhagaaGreatDoor
