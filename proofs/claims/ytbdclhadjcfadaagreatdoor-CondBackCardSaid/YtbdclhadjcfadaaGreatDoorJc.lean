/- Facts of the whole program, each by itself (the kernel's memory does not hold two of them). Conditions: none. -/
import Derived.Test.YtbdclhadjcfadaaGreatDoorJb
import Derived.Test.YtbdclhadjcfadaaGreatDoorTie
import Derived.Test.YtbdclhadjcfadaaGreatDoorCards
import Derived.SevenTiedAt
namespace Go.Proofs.YtbdclhadjcfadaaGreatDoor
open Go.ChangeShapes Go.WideShapes Go.ChangeAt Go.RowKit Go.Am
theorem Qu0 : mapsRowed Tryz.prog = true := by kernel_rfl
theorem Qu6 : (Tryz.prog.stops == []) = true := by kernel_rfl
theorem Qvb : (Tryz.prog.stopKnobs == []) = true := by kernel_rfl
theorem Qv6 : (true == Tryz.prog.plainKeys) = true := by kernel_rfl
theorem Qvm : Tryz.prog.stopsHeard = true := by kernel_rfl
theorem Qvk : Tryz.prog.mayEnter = true := by kernel_rfl
theorem Qt4 : (false == Tryz.prog.liftsFinal) = true := by kernel_rfl
theorem QvY : (Tryz.prog.make == some Rows.condTextsRow.make) = true := by kernel_rfl
theorem Qva : true = Tryz.prog.looks [] := by kernel_rfl
theorem QvQ : Tryz.prog.mainIs = some (true, "08fda4b0ffaff57e1bed5d3537db53937d281378657dcfa0a1c2d346d5a6954e".toList) := by kernel_rfl
theorem Qqn : reachBytes ≤ 281474976710656 := by decide
theorem Qbv {ty : TypeId → List CV → Prop} {t : TypeId} {ts : List TypeId} {l : List CV} (h : TyF ty (t :: ts) l) : ∃ p r, l = p ++ r ∧ ty t p ∧ TyF ty ts r := h
theorem Qou {ty : TypeId → List CV → Prop} {l : List CV} (h : TyF ty [] l) : l = [] := h
end Go.Proofs.YtbdclhadjcfadaaGreatDoor
