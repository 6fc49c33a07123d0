/- Arguments of text, opened. Conditions: none. -/
import Derived.Test.YtiffhngfneikoaaDoorJc
import Derived.Test.YtiffhngfneikoaaDoorRy
import Derived.Test.YtiffhngfneikoaaDoorTie
import Derived.Test.YtiffhngfneikoaaDoorCards
import Derived.SevenTiedAt
namespace Go.Proofs.YtiffhngfneikoaaDoor
open Go.ChangeShapes Go.WideShapes Go.ChangeAt Go.RowKit Go.Am
theorem reach_le : reachBytes ≤ 281474976710656 := by decide
theorem texts_gen {P : Program} {n : Nat} {t : TypeId} (hu : P.underlying t = some .string) {xs : List (List CV)} (h : ∀ x ∈ xs, Ty P (n + 1) t x) : ∃ l, xs = scv l ∧ ∀ w ∈ l, w.length ≤ 281474976710656 := by
  induction xs with
  | nil => exact ⟨[], rfl, fun _ h => by cases h⟩
  | cons x xs ih =>
    obtain ⟨l, rfl, hl⟩ := ih fun y hy => h y (List.mem_cons_of_mem _ hy)
    obtain ⟨s, rfl, hs⟩ := Ty.str hu (h x (List.mem_cons_self ..))
    refine ⟨s :: l, rfl, fun w hw => ?_⟩
    rcases List.mem_cons.1 hw with rfl | hw
    · exact Nat.le_trans hs reach_le
    · exact hl w hw
end Go.Proofs.YtiffhngfneikoaaDoor
