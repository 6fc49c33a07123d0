/- Facts of the whole program, each by itself (the kernel's memory does not hold two of them). Conditions: none. -/
import Derived.Test.YtdcpdknginpohaaGreatDoorJb
import Derived.Test.YtdcpdknginpohaaGreatDoorTie
import Derived.Test.YtdcpdknginpohaaGreatDoorCards
import Derived.SevenTiedAt
namespace Go.Proofs.YtdcpdknginpohaaGreatDoor
open Go.ChangeShapes Go.WideShapes Go.ChangeAt Go.RowKit Go.Am
theorem QwX : mapsRowed Tryz.prog = true := by kernel_rfl
theorem Qxx : (Tryz.prog.stops == []) = true := by kernel_rfl
theorem Qw5 : (Tryz.prog.stopKnobs == []) = true := by kernel_rfl
theorem Qyj : (true == Tryz.prog.plainKeys) = true := by kernel_rfl
theorem Qw2 : Tryz.prog.stopsHeard = true := by kernel_rfl
theorem QwG : Tryz.prog.mayEnter = true := by kernel_rfl
theorem Qwx : (false == Tryz.prog.liftsFinal) = true := by kernel_rfl
theorem Qx9 : (Tryz.prog.make == some Rows.topRevisesRow.make) = true := by kernel_rfl
theorem QwI : true = Tryz.prog.looks [] := by kernel_rfl
theorem Qx3 : Tryz.prog.mainIs = some (true, "b87047f6675b9913d9f0592e2ea0dd659961c8b449ebf9dffd428cda67c90b5c".toList) := by kernel_rfl
theorem QfZ : reachBytes ≤ 281474976710656 := by decide
theorem QaA {ty : TypeId → List CV → Prop} {t : TypeId} {ts : List TypeId} {l : List CV} (h : TyF ty (t :: ts) l) : ∃ p r, l = p ++ r ∧ ty t p ∧ TyF ty ts r := h
theorem QdC {ty : TypeId → List CV → Prop} {l : List CV} (h : TyF ty [] l) : l = [] := h
end Go.Proofs.YtdcpdknginpohaaGreatDoor
