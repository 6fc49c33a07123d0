/- Facts of the whole program, each by itself (the kernel's memory does not hold two of them). Conditions: none. -/
import Derived.Test.YtdcpdknginpohaaGreatDoorJb
import Derived.Test.YtdcpdknginpohaaGreatDoorTie
import Derived.Test.YtdcpdknginpohaaGreatDoorCards
import Derived.SevenTiedAt
namespace Go.Proofs.YtdcpdknginpohaaGreatDoor
open Go.ChangeShapes Go.WideShapes Go.ChangeAt Go.RowKit Go.Am
theorem QxT : mapsRowed Tryz.prog = true := by kernel_rfl
theorem QxN : (Tryz.prog.stops == []) = true := by kernel_rfl
theorem QxB : (Tryz.prog.stopKnobs == []) = true := by kernel_rfl
theorem Qy4 : (true == Tryz.prog.plainKeys) = true := by kernel_rfl
theorem QxM : Tryz.prog.stopsHeard = true := by kernel_rfl
theorem Qxu : Tryz.prog.mayEnter = true := by kernel_rfl
theorem Qw2 : (false == Tryz.prog.liftsFinal) = true := by kernel_rfl
theorem Qyt : (Tryz.prog.make == some Rows.topRevisesRow.make) = true := by kernel_rfl
theorem QxH : true = Tryz.prog.looks [] := by kernel_rfl
theorem Qy8 : Tryz.prog.mainIs = some (true, "b87047f6675b9913d9f0592e2ea0dd659961c8b449ebf9dffd428cda67c90b5c".toList) := by kernel_rfl
theorem Qgp : reachBytes ≤ 281474976710656 := by decide
theorem QaK {ty : TypeId → List CV → Prop} {t : TypeId} {ts : List TypeId} {l : List CV} (h : TyF ty (t :: ts) l) : ∃ p r, l = p ++ r ∧ ty t p ∧ TyF ty ts r := h
theorem QdS {ty : TypeId → List CV → Prop} {l : List CV} (h : TyF ty [] l) : l = [] := h
end Go.Proofs.YtdcpdknginpohaaGreatDoor
