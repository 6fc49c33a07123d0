/- Facts of the whole program, each by itself (the kernel's memory does not hold two of them). Conditions: none. -/
import Derived.Test.YtdcpdknginpohaaGreatDoorJb
import Derived.Test.YtdcpdknginpohaaGreatDoorTie
import Derived.Test.YtdcpdknginpohaaGreatDoorCards
import Derived.SevenTiedAt
namespace Go.Proofs.YtdcpdknginpohaaGreatDoor
open Go.ChangeShapes Go.WideShapes Go.ChangeAt Go.RowKit Go.Am
theorem QsU : mapsRowed Tryz.prog = true := by kernel_rfl
theorem Qs5 : (Tryz.prog.stops == []) = true := by kernel_rfl
theorem Qs1 : (Tryz.prog.stopKnobs == []) = true := by kernel_rfl
theorem QtU : (true == Tryz.prog.plainKeys) = true := by kernel_rfl
theorem Qte : Tryz.prog.stopsHeard = true := by kernel_rfl
theorem Qs4 : Tryz.prog.mayEnter = true := by kernel_rfl
theorem Qsl : (false == Tryz.prog.liftsFinal) = true := by kernel_rfl
theorem QtZ : (Tryz.prog.make == some Rows.topRevisesRow.make) = true := by kernel_rfl
theorem QsH : true = Tryz.prog.looks [] := by kernel_rfl
theorem Qt4 : Tryz.prog.mainIs = some (true, "b87047f6675b9913d9f0592e2ea0dd659961c8b449ebf9dffd428cda67c90b5c".toList) := by kernel_rfl
theorem Qeh : reachBytes ≤ 281474976710656 := by decide
theorem Qaq {ty : TypeId → List CV → Prop} {t : TypeId} {ts : List TypeId} {l : List CV} (h : TyF ty (t :: ts) l) : ∃ p r, l = p ++ r ∧ ty t p ∧ TyF ty ts r := h
theorem Qcu {ty : TypeId → List CV → Prop} {l : List CV} (h : TyF ty [] l) : l = [] := h
end Go.Proofs.YtdcpdknginpohaaGreatDoor
