/- Rules for loops over strings and lists; texts and lists of texts as data. Conditions: as each says. -/
import Derived.Test.YtmpbijffaepkdaaGreatDoorRet
import Derived.Test.YtmpbijffaepkdaaGreatDoorPn
set_option linter.unusedSimpArgs false
namespace Go.Proofs
open Go.Am
theorem beqT {a b : Int} (h : a = b) : (a == b) = true := by simpa using h
theorem beqF {a b : Int} (h : a ≠ b) : (a == b) = false := by simpa using h
theorem bneF {a b : Int} (h : a = b) : (a != b) = false := by simpa using h
theorem decT {p : Prop} [Decidable p] (h : p) : decide p = true := decide_eq_true h
theorem decF {p : Prop} [Decidable p] (h : ¬ p) : decide p = false := decide_eq_false h
def scv (l : List Bs) : List (List CV) := l.map fun s => [CV.str s]
theorem Qdk (l : List Bs) : (scv l).length = l.length := by simp [scv]
end Go.Proofs
