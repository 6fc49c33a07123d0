/- Facts of the whole program, each by itself (the kernel's memory does not hold two of them). Conditions: none. -/
import Derived.Test.YtigmcfhmpcajlaaGreatDoorJb
import Derived.Test.YtigmcfhmpcajlaaGreatDoorTie
import Derived.Test.YtigmcfhmpcajlaaGreatDoorCards
import Derived.SevenTiedAt
namespace Go.Proofs.YtigmcfhmpcajlaaGreatDoor
open Go.ChangeShapes Go.WideShapes Go.ChangeAt Go.RowKit Go.Am
theorem Qve : mapsRowed Tryz.prog = true := by kernel_rfl
theorem QvH : (Tryz.prog.stops == []) = true := by kernel_rfl
theorem Qvh : (Tryz.prog.stopKnobs == []) = true := by kernel_rfl
theorem Qwz : (true == Tryz.prog.plainKeys) = true := by kernel_rfl
theorem Qvp : Tryz.prog.stopsHeard = true := by kernel_rfl
theorem QvA : Tryz.prog.mayEnter = true := by kernel_rfl
theorem QuY : (false == Tryz.prog.liftsFinal) = true := by kernel_rfl
theorem Qwi : (Tryz.prog.make == some Rows.topBookingsRow.make) = true := by kernel_rfl
theorem Qva : true = Tryz.prog.looks [] := by kernel_rfl
theorem Qwg : Tryz.prog.mainIs = some (true, "c79a00f04bf7c5b077a218d23585edd8296ddf2471633b0b5a43e815602e44d2".toList) := by kernel_rfl
theorem QiP : reachBytes ≤ 281474976710656 := by decide
theorem Qa1 {ty : TypeId → List CV → Prop} {t : TypeId} {ts : List TypeId} {l : List CV} (h : TyF ty (t :: ts) l) : ∃ p r, l = p ++ r ∧ ty t p ∧ TyF ty ts r := h
theorem Qg6 {ty : TypeId → List CV → Prop} {l : List CV} (h : TyF ty [] l) : l = [] := h
end Go.Proofs.YtigmcfhmpcajlaaGreatDoor
