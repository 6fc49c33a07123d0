/- Walks of functions of the program that write into slices of their own or read a table: zone.spans, calendar.length. Conditions: as each says. -/
import Derived.Test.YtmefepdgnkhagaaGreatDoorProg
import Derived.Test.YtmefepdgnkhagaaGreatDoorDf
import Derived.ProofKit
import Derived.Below
import Derived.OwnWalk
import Derived.Laws.AppendOwn
import Derived.Laws.OwnMore
import Derived.Maps.AppendAt
import Derived.LoopN
import Derived.WalkKit
import Derived.LoopTactic
import Derived.Laws.NewBlocks
import Derived.Outline
import Derived.OpenShut
import Derived.Shelf.Vars
namespace Go.Proofs
open Go.RowKit

def span3 (x : Int × Int × Int) : List Value := [.int .i64 x.1, .int .i64 x.2.1, .int .i64 x.2.2]
theorem spansF_len : ∀ (l : List (Int × Int)) (fr o : Int), (spansF fr o l).length = l.length + 1
  | [], _, _ => rfl
  | (a, o') :: r, fr, o => by simp [spansF, spansF_len r]
theorem span3_len : ∀ l : List (Int × Int × Int), (l.flatMap span3).length = l.length * 3
  | [] => rfl
  | x :: r => by simp only [List.flatMap_cons, List.length_append, span3_len r, List.length_cons]; simp [span3]; omega
/-- a further shift -/
theorem spansF_snoc : ∀ (l : List (Int × Int)) (fr o a o' : Int), ((spansF fr o l).flatMap span3).set (l.length * 3 + 1) (.int .i64 a) ++ [.int .i64 a, .int .i64 9223372036854775807, .int .i64 o'] = (spansF fr o (l ++ [(a, o')])).flatMap span3
  | [], _, _, _, _ => rfl
  | (b, p) :: r, fr, o, a, o' => by
    have ih := spansF_snoc r b p a o'
    have e : ((b, p) :: r).length * 3 + 1 = (r.length * 3 + 1) + 3 := by simp; omega
    rw [e]
    simp only [spansF, List.flatMap_cons, List.cons_append]
    rw [← ih]
    simp [span3]
theorem cells3_new (w : World) (x y z : Value) (t : TypeId) : ∀ j u, [x, y, z][j]? = some u → (w.alloc (.cells #[x, y, z] t)).cell? ((⟨w.heap.size, 0, none⟩ : Addr).add j) = some u := by
  intro j u hj
  have hc : ∀ o, (w.alloc (.cells #[x, y, z] t)).cell? ⟨w.heap.size, o, none⟩ = #[x, y, z][o]? := fun o => World.cell?_alloc_at _ _ _ _ rfl
  match j, hj with
  | 0, hj => simp at hj; subst hj; exact (hc 0)
  | 1, hj => simp at hj; subst hj; exact (hc 1)
  | 2, hj => simp at hj; subst hj; exact (hc 2)

set_option maxHeartbeats 2000000 in
set_option maxRecDepth 100000 in
theorem Tryz.length_walk (y m n : Int) (w : World) (hl : ∀ (i : Nat) v, lenTab[i]? = some v → w.cell? ⟨11, i, none⟩ = some (.int .i64 v)) (h : lengthF y m = some n) :
    Calls Tryz.prog 248 #[.int .i64 y, .int .i64 m] w fun e w' => e = .returned (.int .i64 n) ∧ w' = w := by
  unfold lengthF at h
  have c0 := hl 0 _ rfl
  have c1 := hl 1 _ rfl
  have c2 := hl 2 _ rfl
  have c3 := hl 3 _ rfl
  have c4 := hl 4 _ rfl
  have c5 := hl 5 _ rfl
  have c6 := hl 6 _ rfl
  have c7 := hl 7 _ rfl
  have c8 := hl 8 _ rfl
  have c9 := hl 9 _ rfl
  have c10 := hl 10 _ rfl
  have c11 := hl 11 _ rfl
  clear hl
  split at h
  · rename_i h2
    obtain ⟨rfl, hy⟩ := h2
    obtain rfl := Option.some.inj h
    go_enter Tryz.func248, Tryz.ntmps248
    go_wp2
    go_ret
    exact ⟨rfl, rfl⟩
  · rename_i h2
    split at h
    · rename_i hm
      have hc : m = 1 ∨ m = 2 ∨ m = 3 ∨ m = 4 ∨ m = 5 ∨ m = 6 ∨ m = 7 ∨ m = 8 ∨ m = 9 ∨ m = 10 ∨ m = 11 ∨ m = 12 := by omega
      rcases hc with rfl | rfl | rfl | rfl | rfl | rfl | rfl | rfl | rfl | rfl | rfl | rfl
      all_goals
        obtain rfl := Option.some.inj h
        have hy : ¬ (Int.tmod y 4 = 0 ∧ (2 : Int) = 2) ∨ True := .inr trivial
        first
          | (go_enter Tryz.func248, Tryz.ntmps248
             go_wp2
             go_ret
             exact ⟨rfl, rfl⟩)
          | (have h3 : ¬ Int.tmod y 4 = 0 := fun q => h2 ⟨rfl, q⟩
             go_enter Tryz.func248, Tryz.ntmps248
             go_wp2
             go_ret
             exact ⟨rfl, rfl⟩)
    · cases h
end Go.Proofs
