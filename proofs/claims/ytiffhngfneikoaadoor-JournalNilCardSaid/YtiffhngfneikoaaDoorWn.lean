/- Journals that New did not return: Add and Records, walked. Conditions: as each says. -/
import Derived.Test.YtiffhngfneikoaaDoorBw
import Derived.LoopN
import Derived.Laws.ResultCell
namespace Go.Proofs
open Go.RowKit
set_option maxHeartbeats 1000000 in
set_option maxRecDepth 100000 in
theorem add_nil (s : ByteArray) (w : World) : Calls Tryd.prog 33 #[.pointer none, .string s] w fun e w' => e = .returned (.tuple #[.agg #[.int .i64 0, .string .empty, .int .i64 0], .int .i64 1]) ∧ Below w.heap.size w w' := by
  go_enter Tryd.func33, Tryd.ntmps33
  go_wp2
  (try simp only [Exit.inBlock, Exit.then])
  refine bodyPost_ret (v := .tuple #[.agg #[.int .i64 0, .string .empty, .int .i64 0], .int .i64 1]) ?_ rfl ⟨rfl, (Below.refl _ _).alloc (Nat.le_refl _) _⟩
  rw [results_cell_tmp rfl]
  go_simp
  rfl
set_option maxHeartbeats 1000000 in
set_option maxRecDepth 100000 in
theorem rec_nil (m : Int) (w : World) : Calls Tryd.prog 35 #[.pointer none, .int .i64 m] w fun e w' => e = .returned (.slice none 0 0) ∧ Below w.heap.size w w' := by
  go_enter Tryd.func35, Tryd.ntmps35
  go_wp2
  go_ret
  exact ⟨rfl, (Below.refl _ _).alloc (Nat.le_refl _) _⟩
set_option maxHeartbeats 1000000 in
set_option maxRecDepth 100000 in
theorem add_new (b : Nat) (s : ByteArray) (w : World) (hb : b < w.heap.size) (h1 : w.cell? ⟨b, 1, none⟩ = some (.bool false)) : Calls Tryd.prog 33 #[.pointer (some ⟨b, 0, none⟩), .string s] w fun e w' => e = .returned (.tuple #[.agg #[.int .i64 0, .string .empty, .int .i64 0], .int .i64 1]) ∧ Below w.heap.size w w' := by
  have c2 : (w.alloc (.cells #[.int .i64 0, .string ⟨#[]⟩, .int .i64 0] 34)).cell? ⟨b, 1, none⟩ = some (.bool false) := by
    rw [World.cell?_of_block (w := w) (Below.heap_alloc w _ b hb)]; exact h1
  go_enter Tryd.func33, Tryd.ntmps33
  go_wp2
  (try simp only [Exit.inBlock, Exit.then])
  refine bodyPost_ret (v := .tuple #[.agg #[.int .i64 0, .string .empty, .int .i64 0], .int .i64 1]) ?_ rfl ⟨rfl, (Below.refl _ _).alloc (Nat.le_refl _) _⟩
  rw [results_cell_tmp rfl]
  go_simp
  rfl
set_option maxHeartbeats 1000000 in
set_option maxRecDepth 100000 in
theorem idx_nil (f : Value) (w : World) : Calls Tryd.prog 82 #[.slice none 0 0, f] w fun e w' => e = .returned (.int .i64 (-1)) ∧ w' = w := by
  go_enter Tryd.func82, Tryd.ntmps82
  go_wp2
  refine wp_loop_rounds 1 ?_
  rw [rounds_succ]
  go_wp2
  go_ret
  exact ⟨rfl, rfl⟩
set_option maxHeartbeats 1000000 in
set_option maxRecDepth 100000 in
theorem rec_new (b : Nat) (m : Int) (w : World) (hb : b < w.heap.size) (h0 : w.cell? ⟨b, 0, none⟩ = some (.slice none 0 0)) : Calls Tryd.prog 35 #[.pointer (some ⟨b, 0, none⟩), .int .i64 m] w fun e w' => e = .returned (.slice none 0 0) ∧ Below w.heap.size w w' := by
  have c2 : (w.alloc (.cells #[.int .i64 m] 3)).cell? ⟨b, 0, none⟩ = some (.slice none 0 0) := by
    rw [World.cell?_of_block (w := w) (Below.heap_alloc w _ b hb)]; exact h0
  go_enter Tryd.func35, Tryd.ntmps35
  go_wp2_with (go_at_call 82; refine (idx_nil _ _).mono ?_; rintro e w' ⟨rfl, rfl⟩)
  all_goals (try go_wp2)
  go_ret
  exact ⟨rfl, (Below.refl _ _).alloc (Nat.le_refl _) _⟩
/-- the two journals and their list, in memory -/
structure NilW (B0 : Nat) (w0 : World) (W : World) (b g : Nat) : Prop where
  old : Below B0 w0 W
  base : B0 ≤ W.heap.size
  hb : b < W.heap.size
  hg : g < W.heap.size
  c0 : W.cell? ⟨b, 0, none⟩ = some (.slice none 0 0)
  c1 : W.cell? ⟨b, 1, none⟩ = some (.bool false)
  l0 : W.cell? ⟨g, 0, none⟩ = some (.pointer none)
  l1 : W.cell? ⟨g, 1, none⟩ = some (.pointer (some ⟨b, 0, none⟩))
theorem NilW.below {B0 : Nat} {w0 W W' : World} {b g : Nat} (N : NilW B0 w0 W b g) (h : Below W.heap.size W W') : NilW B0 w0 W' b g := by
  have e1 : ∀ o, W'.cell? ⟨b, o, none⟩ = W.cell? ⟨b, o, none⟩ := fun o => World.cell?_of_block (h.block b N.hb)
  have e2 : ∀ o, W'.cell? ⟨g, o, none⟩ = W.cell? ⟨g, o, none⟩ := fun o => World.cell?_of_block (h.block g N.hg)
  exact ⟨N.old.trans (h.mono N.base), Nat.le_trans N.base h.size, Nat.lt_of_lt_of_le N.hb h.size, Nat.lt_of_lt_of_le N.hg h.size, by rw [e1]; exact N.c0, by rw [e1]; exact N.c1, by rw [e2]; exact N.l0, by rw [e2]; exact N.l1⟩
theorem below_alloc (w : World) (ob : Obj) : Below w.heap.size w (w.alloc ob) := (Below.refl _ _).alloc (Nat.le_refl _) ob
set_option maxHeartbeats 4000000 in
set_option maxRecDepth 100000 in
theorem nil_walk (s : ByteArray) (m : Int) (w0 w : World) (B0 : Nat) (h0 : Below B0 w0 w) (hB : B0 ≤ w.heap.size) (hA : ∀ w', Below B0 w0 w' → B0 ≤ w'.heap.size → Calls Tryd.prog 20 #[] w' fun e w2 => e = .returned (.bool true) ∧ Below w'.heap.size w' w2) : Calls Tryd.prog 7 #[.string s, .int .i64 m] w fun e w' => e = .returned (.bool true) ∧ Below B0 w0 w' := by
  go_enter Tryd.func7, Tryd.ntmps7
  go_wp2_with (first
    | (go_at_call 20; refine (hA _ (by assumption) (by assumption)).mono ?_; rintro e w' ⟨rfl, hb⟩))
  · go_ret
    exact ⟨rfl, h0.trans (by rename_i hb; exact hb.mono hB)⟩
  · have N1 : NilW B0 w0 ((w.alloc (.cells #[.slice none 0 0, .bool false] 52)).alloc (.cells #[.pointer none, .pointer (some ⟨w.heap.size, 0, none⟩)] 43)) w.heap.size (w.heap.size + 1) := by
      have s1 : (w.alloc (.cells #[.slice none 0 0, .bool false] 52)).heap.size = w.heap.size + 1 := by simp
      have s2 : ((w.alloc (.cells #[.slice none 0 0, .bool false] 52)).alloc (.cells #[.pointer none, .pointer (some ⟨w.heap.size, 0, none⟩)] 43)).heap.size = w.heap.size + 2 := by simp
      have b1 : ((w.alloc (.cells #[.slice none 0 0, .bool false] 52)).alloc (.cells #[.pointer none, .pointer (some ⟨w.heap.size, 0, none⟩)] 43)).heap[w.heap.size]? = some (.cells #[.slice none 0 0, .bool false] 52) := by
        rw [Below.heap_alloc _ _ _ (by omega)]
        exact heap_alloc_new w _
      have b2 : ((w.alloc (.cells #[.slice none 0 0, .bool false] 52)).alloc (.cells #[.pointer none, .pointer (some ⟨w.heap.size, 0, none⟩)] 43)).heap[w.heap.size + 1]? = some (.cells #[.pointer none, .pointer (some ⟨w.heap.size, 0, none⟩)] 43) := by
        rw [← s1]
        exact heap_alloc_new _ _
      refine ⟨(h0.alloc hB _).alloc (by omega) _, by omega, by omega, by omega, ?_, ?_, ?_, ?_⟩
      · simp only [World.cell?, b1]; rfl
      · simp only [World.cell?, b1]; rfl
      · simp only [World.cell?, b2]; rfl
      · simp only [World.cell?, b2]; rfl
    refine wp_loop_rounds 3 ?_
    rw [rounds_succ]
    have l0 := N1.l0
    go_wp2_with (first
      | (go_at_call 33; refine (add_nil _ _).mono ?_; rintro e w1 ⟨rfl, hb1⟩; have N2 := N1.below hb1; have N3 := N2.below (below_alloc w1 (.cells #[.int .i64 0, .string .empty, .int .i64 0] 34)); have q0 := N3.l0)
      | (go_at_call 35; refine (rec_nil _ _).mono ?_; rintro e w2 ⟨rfl, hb2⟩; have N4 := N3.below hb2; have q1 := N4.l1))
    rw [rounds_succ]
    go_wp2_with (first
      | (go_at_call 33; refine (add_new _ _ _ N4.hb N4.c1).mono ?_; rintro e w3 ⟨rfl, hb3⟩; have N5 := N4.below hb3; have N6 := N5.below (below_alloc w3 (.cells #[.int .i64 0, .string .empty, .int .i64 0] 34)); have q2 := N6.l1)
      | (go_at_call 35; refine (rec_new _ _ _ N6.hb N6.c0).mono ?_; rintro e w4 ⟨rfl, hb4⟩; have N7 := N6.below hb4))
    rw [rounds_succ]
    go_wp2_with (first
      | (go_at_call 20; refine (hA _ N7.old N7.base).mono ?_; rintro e w5 ⟨rfl, hb5⟩))
    go_ret
    exact ⟨rfl, N7.old.trans (hb5.mono N7.base)⟩
end Go.Proofs
