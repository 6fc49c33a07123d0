/- Walks of functions of the program that write into slices of their own or read a table: zone.spans, calendar.length. Conditions: as each says. -/
import Derived.Test.YtbdclhadjcfadaaGreatDoorProg
import Derived.Test.YtbdclhadjcfadaaGreatDoorDf
import Derived.ProofKit
import Derived.Below
import Derived.OwnWalk
import Derived.Laws.AppendOwn
import Derived.Laws.OwnMore
import Derived.Maps.AppendAt
import Derived.LoopN
import Derived.WalkKit
import Derived.LoopTactic
import Derived.Laws.NewBlocks
import Derived.Outline
import Derived.OpenShut
import Derived.Shelf.Vars
namespace Go.Proofs
open Go.RowKit
set_option maxHeartbeats 2000000 in
set_option maxRecDepth 100000 in
theorem Tryz.length_walk (y m n:Int) (w:World) (hl:∀ (i:Nat) v,QrJ[i]? = some v → w.cell? ⟨1,i,none⟩ = some (.int .i64 v)) (h:Qjt y m = some n) :
  Calls Tryz.prog 122 #[.int .i64 y, .int .i64 m] w fun e w' => e = .returned (.int .i64 n) ∧ w' = w := by
 unfold Qjt at h
 have c0 := hl 0 _ rfl
 have c1 := hl 1 _ rfl
 have c2 := hl 2 _ rfl
 have c3 := hl 3 _ rfl
 have c4 := hl 4 _ rfl
 have c5 := hl 5 _ rfl
 have c6 := hl 6 _ rfl
 have c7 := hl 7 _ rfl
 have c8 := hl 8 _ rfl
 have c9 := hl 9 _ rfl
 have c10 := hl 10 _ rfl
 have vL := hl 11 _ rfl
 clear hl
 split at h
 ·rename_i h2
  obtain ⟨rfl,hy⟩ := h2
  obtain rfl := Option.some.inj h
  go_enter Tryz.func122,Tryz.ntmps122
  go_wp2
  go_ret
  exact ⟨rfl,rfl⟩
 ·rename_i h2
  split at h
  ·rename_i hm
   have hc:m = 1 ∨ m = 2 ∨ m = 3 ∨ m = 4 ∨ m = 5 ∨ m = 6 ∨ m = 7 ∨ m = 8 ∨ m = 9 ∨ m = 10 ∨ m = 11 ∨ m = 12 := by omega
   rcases hc with rfl | rfl | rfl | rfl | rfl | rfl | rfl | rfl | rfl | rfl | rfl | rfl
   all_goals
    obtain rfl := Option.some.inj h
    have hy:¬ (Int.tmod y 4 = 0 ∧ (2:Int) = 2) ∨ True := .inr trivial
    first
     | (go_enter Tryz.func122,Tryz.ntmps122
        go_wp2
        go_ret
        exact ⟨rfl,rfl⟩)
     | (have h3:¬ Int.tmod y 4 = 0 := fun q => h2 ⟨rfl,q⟩
        go_enter Tryz.func122,Tryz.ntmps122
        go_wp2
        go_ret
        exact ⟨rfl,rfl⟩)
  ·cases h
end Go.Proofs
