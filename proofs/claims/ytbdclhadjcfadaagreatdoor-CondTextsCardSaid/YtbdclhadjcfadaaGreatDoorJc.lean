/- Facts of the whole program, each by itself (the kernel's memory does not hold two of them). Conditions: none. -/
import Derived.Test.YtbdclhadjcfadaaGreatDoorJb
import Derived.Test.YtbdclhadjcfadaaGreatDoorTie
import Derived.Test.YtbdclhadjcfadaaGreatDoorCards
import Derived.SevenTiedAt
namespace Go.Proofs.YtbdclhadjcfadaaGreatDoor
open Go.ChangeShapes Go.WideShapes Go.ChangeAt Go.RowKit Go.Am
theorem QAq:mapsRowed Tryz.prog = true := by kernel_rfl
theorem QAV:(Tryz.prog.stops == []) = true := by kernel_rfl
theorem QAx:(Tryz.prog.stopKnobs == []) = true := by kernel_rfl
theorem QB7:(true == Tryz.prog.plainKeys) = true := by kernel_rfl
theorem QAD:Tryz.prog.stopsHeard = true := by kernel_rfl
theorem QA4:Tryz.prog.mayEnter = true := by kernel_rfl
theorem QyY:(false == Tryz.prog.liftsFinal) = true := by kernel_rfl
theorem QBQ:(Tryz.prog.make == some Rows.condTextsRow.make) = true := by kernel_rfl
theorem QAj:true = Tryz.prog.looks [] := by kernel_rfl
theorem QBn : Tryz.prog.mainIs = some (true, "08fda4b0ffaff57e1bed5d3537db53937d281378657dcfa0a1c2d346d5a6954e".toList) := by kernel_rfl
theorem QvK:reachBytes ≤ 281474976710656 := by decide
theorem QbL {ty:TypeId → List CV → Prop} {t:TypeId} {ts:List TypeId} {l:List CV} (h:TyF ty (t :: ts) l):∃ p r,l = p ++ r ∧ ty t p ∧ TyF ty ts r := h
theorem Qso {ty:TypeId → List CV → Prop} {l:List CV} (h:TyF ty [] l):l = [] := h
end Go.Proofs.YtbdclhadjcfadaaGreatDoor
