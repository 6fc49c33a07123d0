/- Walks of functions of the program that write into slices of their own or read a table: zone.spans, calendar.length. Conditions: as each says. -/
import Derived.Test.YtdcpdknginpohaaGreatDoorProg
import Derived.Test.YtdcpdknginpohaaGreatDoorDf
import Derived.ProofKit
import Derived.Below
import Derived.OwnWalk
import Derived.Laws.AppendOwn
import Derived.Laws.OwnMore
import Derived.Maps.AppendAt
import Derived.LoopN
import Derived.WalkKit
import Derived.LoopTactic
import Derived.Laws.NewBlocks
import Derived.Outline
import Derived.OpenShut
import Derived.Shelf.Vars
namespace Go.Proofs
open Go.RowKit
def span3 (x : Int × Int × Int) : List Value := [.int .i64 x.1, .int .i64 x.2.1, .int .i64 x.2.2]
theorem Qo9 : ∀ (l : List (Int × Int)) (fr o : Int), (Qdt fr o l).length = l.length + 1
 | [], _, _ => rfl
 | (a, o') :: r, fr, o => by simp [Qdt, Qo9 r]
theorem QqQ : ∀ l : List (Int × Int × Int), (l.flatMap span3).length = l.length * 3
 | [] => rfl
 | x :: r => by simp only [List.flatMap_cons, List.length_append, QqQ r, List.length_cons]; simp [span3]; omega
theorem QnU : ∀ (l : List (Int × Int)) (fr o a o' : Int), ((Qdt fr o l).flatMap span3).set (l.length * 3 + 1) (.int .i64 a) ++ [.int .i64 a, .int .i64 9223372036854775807, .int .i64 o'] = (Qdt fr o (l ++ [(a, o')])).flatMap span3
 | [], _, _, _, _ => rfl
 | (b, p) :: r, fr, o, a, o' => by
  have ih := QnU r b p a o'
  have e : ((b, p) :: r).length * 3 + 1 = (r.length * 3 + 1) + 3 := by simp; omega
  rw [e]
  simp only [Qdt, List.flatMap_cons, List.cons_append]
  rw [← ih]
  simp [span3]
theorem Tryz.infoSpan : (Tryz.prog.info? 232).map (fun i => (i.zero, i.size, i.bytes)) = some (some (.agg #[.int .i64 0, .int .i64 0, .int .i64 0]), 3, 24) := by kernel_rfl
theorem Qvl (w : World) (x y z : Value) (t : TypeId) : ∀ j u, [x, y, z][j]? = some u → (w.alloc (.cells #[x, y, z] t)).cell? ((⟨w.heap.size, 0, none⟩ : Addr).add j) = some u := by
 intro j u hj
 have hc : ∀ o, (w.alloc (.cells #[x, y, z] t)).cell? ⟨w.heap.size, o, none⟩ = #[x, y, z][o]? := fun o => World.cell?_alloc_at _ _ _ _ rfl
 match j, hj with
 | 0, hj => simp at hj; subst hj; exact (hc 0)
 | 1, hj => simp at hj; subst hj; exact (hc 1)
 | 2, hj => simp at hj; subst hj; exact (hc 2)
set_option maxHeartbeats 2000000 in
set_option maxRecDepth 100000 in
theorem Tryz.spans_walk (o : Int) (s : List (Int × Int)) (p : Option Addr) (b off cap : Nat) (w : World) (hn : s.length ≤ 1000000000000) (hp : s.length ≠ 0 → p = some ⟨b, off, none⟩) (hb : s.length ≠ 0 → b < w.heap.size)
  (hc : ∀ (k : Nat) x, s[k]? = some x → w.cell? ⟨b, off + k * 2, none⟩ = some (.int .i64 x.1) ∧ w.cell? ⟨b, off + k * 2 + 1, none⟩ = some (.int .i64 x.2)) :
  Calls Tryz.prog 223 #[.agg #[.int .i64 o, .slice p s.length cap]] w fun e w' => ∃ v, e = .returned v ∧ w'.ownsRow w.heap.size 232 3 v (s.length + 1) ((Qdt (-9223372036854775808) o s).flatMap span3) ∧ Below w.heap.size w w' := by
 obtain ⟨i0, hi, hz0, hz1, hz2⟩ := info_parts Tryz.infoSpan
 go_enter Tryz.func223, Tryz.ntmps223
 go_wp2
 go_loopw [3, 13] (fun v i wr => ∃ k g cap' : Nat, k ≤ s.length ∧ i = .int .i64 k ∧ v = .slice (some ⟨g, 0, none⟩) (k + 1) cap' ∧ wr.ownsRow w.heap.size 232 3 (.slice (some ⟨g, 0, none⟩) (k + 1) cap') (k + 1) ((Qdt (-9223372036854775808) o (s.take k)).flatMap span3) ∧ Below w.heap.size w wr)
  (fun _ i _ => s.length - (intOf i).toNat)
 case atStart =>
  refine ⟨0, w.heap.size + 1, 1, Nat.zero_le _, rfl, rfl, ?_, ((Below.refl _ w).alloc (Nat.le_refl _) _).alloc (by simp) _⟩
  have := World.ownsRow_lit (base := w.heap.size) (e := 232) (size := 3) (w.alloc (.cells #[.int .i64 o, .slice p s.length cap] 80)) #[.int .i64 (-9223372036854775808), .int .i64 9223372036854775807, .int .i64 o] 1 (by simp) (by decide) rfl
  simpa [Qdt, span3] using this
 case round =>
  obtain ⟨k, g, cap', hk, rfl, rfl, hown, hB⟩ := hrel
  have hsz := hB.size
  by_cases hlt : k < s.length
  ·obtain ⟨x, hx⟩ : ∃ x, s[k]? = some x := ⟨_, List.getElem?_eq_getElem hlt⟩
   obtain rfl := hp (by omega)
   have hbb := hb (by omega)
   obtain ⟨h1, h2⟩ := hc k x hx
   have c1 : wr.cell? ⟨b, off + k * 2, none⟩ = some (.int .i64 x.1) := (hB.cell (by exact hbb)).trans h1
   have c2 : wr.cell? ⟨b, off + k * 2 + 1, none⟩ = some (.int .i64 x.2) := (hB.cell (by exact hbb)).trans h2
   obtain ⟨A, hA⟩ : ∃ A, Obj.cells #[Value.int .i64 x.1, Value.int .i64 x.2] 195 = A := ⟨_, rfl⟩
   have hownA := hown.alloc A
   have hf := hownA.frozenAt (k * 3 + 1)
   have hlen := hown.1
   obtain ⟨u, hu⟩ : ∃ u, ((Qdt (-9223372036854775808) o (s.take k)).flatMap span3)[k * 3 + 1]? = some u := ⟨_, List.getElem?_eq_getElem (by omega)⟩
   have hcu := (hownA.cellAt (k * 3 + 1) (by omega)).trans hu
   obtain ⟨hown1, hgr1⟩ := hown.stored (k * 3 + 1) (.int .i64 x.1)
   have hown2 := hown1.alloc A
   have hgl := hown.lt g rfl
   have hsz1 : (wr.setCell ⟨g, k * 3 + 1, none⟩ (.int .i64 x.1)).heap.size = wr.heap.size := by simp
   have d0 : ((wr.setCell ⟨g, k * 3 + 1, none⟩ (.int .i64 x.1)).alloc A).cell? ⟨wr.heap.size, 0, none⟩ = some (.int .i64 x.1) := by
    rw [← hA]; exact World.cell?_alloc_at _ _ _ _ hsz1.symm
   have d1 : ((wr.setCell ⟨g, k * 3 + 1, none⟩ (.int .i64 x.1)).alloc A).cell? ⟨wr.heap.size, 1, none⟩ = some (.int .i64 x.2) := by
    rw [← hA]; exact World.cell?_alloc_at _ _ _ _ hsz1.symm
   have hsz2 : ((wr.setCell ⟨g, k * 3 + 1, none⟩ (.int .i64 x.1)).alloc A).heap.size = wr.heap.size + 1 := by simp
   have hB2 : Below w.heap.size w ((wr.setCell ⟨g, k * 3 + 1, none⟩ (.int .i64 x.1)).alloc A) := (hB.setCell (p := ⟨g, k * 3 + 1, none⟩) hgl.1 _).alloc (by rw [hsz1]; exact hsz) A
   have c3 := Qvl ((wr.setCell ⟨g, k * 3 + 1, none⟩ (.int .i64 x.1)).alloc A) (.int .i64 x.1) (.int .i64 9223372036854775807) (.int .i64 x.2) 232
   rw [hsz2] at c3
   subst hA
   go_wp2_with (at_builtin; refine wpList_append_own _ rfl _ _ 229 rfl w.heap.size 232 i0 (.agg #[.int .i64 0, .int .i64 0, .int .i64 0]) 3 24 Tryz.underlying229 hi hz0 hz1 hz2 rfl (by decide) _ _ _ rfl (hown2.alloc _) ⟨wr.heap.size + 1, 0, none⟩ 1 1 [.int .i64 x.1, .int .i64 9223372036854775807, .int .i64 x.2] rfl rfl ?c1 ?c2 ?c3 ?c4 ?c5 ?_)
   case c2 => exact ⟨rfl, rfl, rfl⟩
   case c3 => unfold maxLen; omega
   case c4 => omega
   case c5 => omega
   intro v' w1 hown' hgrow _
   have hs := QnU (s.take k) (-9223372036854775808) o x.1 x.2
   rw [List.length_take, Nat.min_eq_left hk, show s.take k ++ [(x.1, x.2)] = s.take (k + 1) by rw [List.take_add_one, hx]; rfl] at hs
   rw [hs] at hown'
   obtain ⟨g', cap2, rfl⟩ : ∃ g' cap2, v' = .slice (some ⟨g', 0, none⟩) (k + 1 + 1) cap2 := by
    rcases hown'.2 with ⟨_, h0⟩ | ⟨g, cap, _, rfl, _⟩
    ·omega
    ·exact ⟨g, cap, rfl⟩
   have hB3 : Below w.heap.size w w1 := (hB2.alloc (by rw [hsz2]; omega) _).grown hgrow (by simp; omega) (fun j ej => by
    have : g = j := by simpa [Value.ownBlock] using ej
    omega)
   go_wp2
   go_roundw
   case rel => exact ⟨k + 1, g', cap2, by omega, rfl, rfl, hown', hB3⟩
   case measure => simp [intOf]; omega
  ·have hkl : k = s.length := by omega
   subst hkl
   go_wp2
   go_ret
   exact ⟨_, rfl, by simpa using hown, hB⟩
set_option maxHeartbeats 2000000 in
set_option maxRecDepth 100000 in
theorem Tryz.length_walk (y m n : Int) (w : World) (hl : ∀ (i : Nat) v, QpU[i]? = some v → w.cell? ⟨0, i, none⟩ = some (.int .i64 v)) (h : QiD y m = some n) :
  Calls Tryz.prog 178 #[.int .i64 y, .int .i64 m] w fun e w' => e = .returned (.int .i64 n) ∧ w' = w := by
 unfold QiD at h
 have c0 := hl 0 _ rfl
 have c1 := hl 1 _ rfl
 have c2 := hl 2 _ rfl
 have c3 := hl 3 _ rfl
 have c4 := hl 4 _ rfl
 have c5 := hl 5 _ rfl
 have c6 := hl 6 _ rfl
 have c7 := hl 7 _ rfl
 have c8 := hl 8 _ rfl
 have c9 := hl 9 _ rfl
 have c10 := hl 10 _ rfl
 have c11 := hl 11 _ rfl
 clear hl
 split at h
 ·rename_i h2
  obtain ⟨rfl, hy⟩ := h2
  obtain rfl := Option.some.inj h
  go_enter Tryz.func178, Tryz.ntmps178
  go_wp2
  go_ret
  exact ⟨rfl, rfl⟩
 ·rename_i h2
  split at h
  ·rename_i hm
   have hc : m = 1 ∨ m = 2 ∨ m = 3 ∨ m = 4 ∨ m = 5 ∨ m = 6 ∨ m = 7 ∨ m = 8 ∨ m = 9 ∨ m = 10 ∨ m = 11 ∨ m = 12 := by omega
   rcases hc with rfl | rfl | rfl | rfl | rfl | rfl | rfl | rfl | rfl | rfl | rfl | rfl
   all_goals
    obtain rfl := Option.some.inj h
    have hy : ¬ (Int.tmod y 4 = 0 ∧ (2 : Int) = 2) ∨ True := .inr trivial
    first
     | (go_enter Tryz.func178, Tryz.ntmps178
        go_wp2
        go_ret
        exact ⟨rfl, rfl⟩)
     | (have h3 : ¬ Int.tmod y 4 = 0 := fun q => h2 ⟨rfl, q⟩
        go_enter Tryz.func178, Tryz.ntmps178
        go_wp2
        go_ret
        exact ⟨rfl, rfl⟩)
  ·cases h
end Go.Proofs
