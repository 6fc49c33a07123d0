/- Facts of the whole program, each by itself (the kernel's memory does not hold two of them). Conditions: none. -/
import Derived.Test.YtmpbijffaepkdaaGreatDoorJb
import Derived.Test.YtmpbijffaepkdaaGreatDoorTie
import Derived.Test.YtmpbijffaepkdaaGreatDoorCards
import Derived.SevenTiedAt
namespace Go.Proofs.YtmpbijffaepkdaaGreatDoor
open Go.ChangeShapes Go.WideShapes Go.ChangeAt Go.RowKit Go.Am
theorem QmA : mapsRowed Tryz.prog = true := by kernel_rfl
theorem QmM : (Tryz.prog.stops == []) = true := by kernel_rfl
theorem QmB : (Tryz.prog.stopKnobs == []) = true := by kernel_rfl
theorem Qnj : (true == Tryz.prog.plainKeys) = true := by kernel_rfl
theorem QmC : Tryz.prog.stopsHeard = true := by kernel_rfl
theorem Qmr : Tryz.prog.mayEnter = true := by kernel_rfl
theorem Qmb : (false == Tryz.prog.liftsFinal) = true := by kernel_rfl
theorem Qnw : (Tryz.prog.make == some Rows.tariffFindsRow.make) = true := by kernel_rfl
theorem QmS : true = Tryz.prog.looks [] := by kernel_rfl
theorem QnB : Tryz.prog.mainIs = some (true, "e1c966f8f8480a1b87a2223572a0ccae1c8646e05a03f39d5edbc9d99738ed78".toList) := by kernel_rfl
theorem Qkq : reachBytes ≤ 281474976710656 := by decide
theorem Qaj {ty : TypeId → List CV → Prop} {t : TypeId} {ts : List TypeId} {l : List CV} (h : TyF ty (t :: ts) l) : ∃ p r, l = p ++ r ∧ ty t p ∧ TyF ty ts r := h
theorem Qcx {ty : TypeId → List CV → Prop} {l : List CV} (h : TyF ty [] l) : l = [] := h
end Go.Proofs.YtmpbijffaepkdaaGreatDoor
