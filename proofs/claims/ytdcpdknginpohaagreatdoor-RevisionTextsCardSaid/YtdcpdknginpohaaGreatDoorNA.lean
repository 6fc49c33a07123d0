/- Chapter 10 on plain data: the canonical period of a list of days, by the program and by its reference. Conditions: as each says. -/
import Derived.Test.YtdcpdknginpohaaGreatDoorKB
import Derived.Test.YtdcpdknginpohaaGreatDoorGt
import Derived.Test.YtdcpdknginpohaaGreatDoorVa
import Derived.Test.YtdcpdknginpohaaGreatDoorVb
import Derived.Test.YtdcpdknginpohaaGreatDoorVc
set_option linter.unusedSimpArgs false
set_option linter.unusedVariables false
namespace Go.Proofs
open Go.Am
variable (lb : Nat)
end Go.Proofs
set_option linter.unusedSimpArgs false
set_option linter.unusedVariables false
namespace Go.Proofs
open Go.Am
variable (lb : Nat)
abbrev Asc (l : List Int) : Prop := l.Pairwise (· < ·)
theorem Asc.ext : ∀ {a b : List Int}, Asc a → Asc b → (∀ x, x ∈ a ↔ x ∈ b) → a = b
 | [], [], _, _, _ => rfl
 | [], y :: b, _, _, h => by have := (h y).2 (by simp); cases this
 | x :: a, [], _, _, h => by have := (h x).1 (by simp); cases this
 | x :: a, y :: b, ha, hb, h => by
  have h1 := List.pairwise_cons.1 ha
  have h2 := List.pairwise_cons.1 hb
  have hxy : x = y := by
   have e1 := (h x).1 (by simp)
   have e2 := (h y).2 (by simp)
   simp only [List.mem_cons] at e1 e2
   rcases e1 with e1 | e1
   ·exact e1
   ·rcases e2 with e2 | e2
    ·exact e2.symm
    ·have := h1.1 y e2
     have := h2.1 x e1
     omega
  subst hxy
  congr 1
  refine Asc.ext h1.2 h2.2 fun z => ⟨fun hz => ?_, fun hz => ?_⟩
  ·have := (h z).1 (by simp [hz])
   simp only [List.mem_cons] at this
   rcases this with rfl | this
   ·have := h1.1 z hz; omega
   ·exact this
  ·have := (h z).2 (by simp [hz])
   simp only [List.mem_cons] at this
   rcases this with rfl | this
   ·have := h2.1 z hz; omega
   ·exact this
theorem Asc.filter {l : List Int} (h : Asc l) (p : Int → Bool) : Asc (l.filter p) := h.sublist List.filter_sublist
end Go.Proofs
set_option linter.unusedSimpArgs false
set_option linter.unusedVariables false
namespace Go.Proofs
open Go.Am
variable (lb : Nat)
end Go.Proofs
set_option linter.unusedSimpArgs false
set_option linter.unusedVariables false
namespace Go.Proofs
open Go.Am
variable (lb : Nat)
structure Rv where
 kind : Int
 car : Bs
 num : Int
 fr : Int
 to : Int
 days : Int
 min : Int
 eq : Bs
 ln : Bool
 legs : List Lg
abbrev rvcv (r : Rv) : CV := .agg [.int .i64 r.kind, .str r.car, .int .i64 r.num, .int .i64 r.fr, .int .i64 r.to, .int .i64 r.days, .int .i64 r.min, .str r.eq, .list r.ln (r.legs.map lgcv)]
end Go.Proofs
