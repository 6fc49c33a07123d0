/- Facts of the whole program, each by itself (the kernel's memory does not hold two of them). Conditions: none. -/
import Derived.Test.YtdcpdknginpohaaGreatDoorJb
import Derived.Test.YtdcpdknginpohaaGreatDoorTie
import Derived.Test.YtdcpdknginpohaaGreatDoorCards
import Derived.SevenTiedAt
namespace Go.Proofs.YtdcpdknginpohaaGreatDoor
open Go.ChangeShapes Go.WideShapes Go.ChangeAt Go.RowKit Go.Am
theorem sh_rowed : mapsRowed Tryz.prog = true := by kernel_rfl
theorem sh_stops : (Tryz.prog.stops == []) = true := by kernel_rfl
theorem sh_knobs : (Tryz.prog.stopKnobs == []) = true := by kernel_rfl
theorem sh_keys : (true == Tryz.prog.plainKeys) = true := by kernel_rfl
theorem sh_heard : Tryz.prog.stopsHeard = true := by kernel_rfl
theorem sh_enter : Tryz.prog.mayEnter = true := by kernel_rfl
theorem sh_lifted : (false == Tryz.prog.liftsFinal) = true := by kernel_rfl
theorem sh_make : (Tryz.prog.make == some Rows.topRevisesRow.make) = true := by kernel_rfl
theorem sh_looks : true = Tryz.prog.looks [] := by kernel_rfl
theorem sh_main : Tryz.prog.mainIs = some (true, "b87047f6675b9913d9f0592e2ea0dd659961c8b449ebf9dffd428cda67c90b5c".toList) := by kernel_rfl
theorem reach_le : reachBytes ≤ 281474976710656 := by decide
theorem tyF_cons {ty : TypeId → List CV → Prop} {t : TypeId} {ts : List TypeId} {l : List CV} (h : TyF ty (t :: ts) l) : ∃ p r, l = p ++ r ∧ ty t p ∧ TyF ty ts r := h
theorem tyF_nil {ty : TypeId → List CV → Prop} {l : List CV} (h : TyF ty [] l) : l = [] := h
end Go.Proofs.YtdcpdknginpohaaGreatDoor
