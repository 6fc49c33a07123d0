/- Walks of period.Days, period.Count, period.Normal: loops over the iterator period.each. Conditions: as each says. -/
import Derived.RangeFuncBox
import Derived.RangeFuncLeaves
import Derived.RangeFuncNested
import Derived.Shelf.Abstract
import Derived.WalkKit
import Derived.OwnWalkIn
import Derived.TacticsInMore
import Derived.LoopNIn
import Derived.LoopIn
import Derived.Maps.AppendAt
import Derived.Outline
import Derived.Test.YtigmcfhmpcajlaaGreatDoorProg
import Derived.Test.YtigmcfhmpcajlaaGreatDoorDf
namespace Go.Proofs
open Go.RowKit Go.Shelf
attribute [local go_sem] Oper.semAt_some
set_option maxHeartbeats 1000000 in
theorem Tryz.check_in (F : Fence) (n : Nat) (h : F.fn 144) (hro : F.round = none) (fr to days : Int) (w : World) :
  CallsIn F n Tryz.prog 144 #[.agg #[.int .i64 fr, .int .i64 to, .int .i64 days]] w fun e w' => e = .returned (.int .i64 (perE fr to days)) ∧ w' = w.alloc (.cells #[.int .i64 fr, .int .i64 to, .int .i64 days] 74) := by
 refine callsIn_of_wp Tryz.func144 rfl h ?_ hro
 simp only [Tryz.ntmps144, List.size_toArray, List.length_cons, List.length_nil, Nat.reduceAdd, Nat.reduceSub, Array.replicate_succ, Array.replicate_zero, List.push_toArray, List.append_toArray, List.nil_append, List.cons_append]
 unfold perE
 gi_wp2
 all_goals (go_ret; exact ⟨rfl, rfl⟩)
theorem QoN {day : Int} (h0 : 0 ≤ day) : 0 ≤ Qd9 day ∧ Qd9 day ≤ 6 := by
 have h1 : 0 ≤ Int.tmod day 7 := Int.tmod_nonneg _ h0
 unfold Qd9
 have h3 : 0 ≤ Int.tmod (Int.tmod day 7 + 12) 7 := Int.tmod_nonneg _ (by omega)
 have h4 : Int.tmod (Int.tmod day 7 + 12) 7 < 7 := Int.tmod_lt_of_pos _ (by omega)
 omega
theorem Qqg {day : Int} (h0 : 0 ≤ day) : (day % 7 + 12) % 7 = Qd9 day := by
 unfold Qd9
 rw [Int.tmod_eq_emod_of_nonneg h0, Int.tmod_eq_emod_of_nonneg (by omega)]
set_option maxHeartbeats 1000000 in
theorem Tryz.wday_in (F : Fence) (n : Nat) (h : F.fn 169) (hro : F.round = none) (day : Int) (w : World) (h0 : 0 ≤ day) (h1 : day < 36525) :
  CallsIn F n Tryz.prog 169 #[.int .i64 day] w fun e w' => e = .returned (.int .i64 (Qd9 day)) ∧ w' = w := by
 refine callsIn_of_wp Tryz.func169 rfl h ?_ hro
 simp only [Tryz.ntmps169, List.size_toArray, List.length_cons, List.length_nil, Nat.reduceAdd, Nat.reduceSub, Array.replicate_succ, Array.replicate_zero, List.push_toArray, List.append_toArray, List.nil_append, List.cons_append]
 gi_wp2
 go_ret
 exact ⟨by rw [Qqg h0]; rfl, rfl⟩
theorem Qqm : ∀ x : Fin 128, bits BinOp.and IntKind.i64 (x.val : Int) 1 = (x.val : Int) % 2 := by decide +kernel
theorem QrB {days day : Int} (hd : 1 ≤ days ∧ days ≤ 127) : (bits BinOp.and IntKind.i64 (days / 2 ^ (Qd9 day).toNat) 1 == 1) = onF days day := by
 have hp : (0 : Int) < 2 ^ (Qd9 day).toNat := Int.pow_pos (by decide)
 have h1 : 0 ≤ days / 2 ^ (Qd9 day).toNat := Int.ediv_nonneg (by omega) (by omega)
 have h2 : days / 2 ^ (Qd9 day).toNat ≤ 127 := Int.le_trans (Int.ediv_le_self _ (by omega)) hd.2
 unfold onF
 obtain ⟨x, hx⟩ : ∃ x : Nat, days / 2 ^ (Qd9 day).toNat = x := ⟨_, (Int.toNat_of_nonneg h1).symm⟩
 rw [hx] at h2 ⊢
 have := Qqm ⟨x, by omega⟩
 simp only at this
 rw [this]
set_option maxHeartbeats 1000000 in
theorem Tryz.on_in (F : Fence) (n : Nat) (h : F.fn 145) (h2 : F.fn 169) (hro : F.round = none) (hn : 1 ≤ n) (days day : Int) (w : World) (h0 : 0 ≤ day) (h1 : day < 36525) (hd : 1 ≤ days ∧ days ≤ 127) :
  CallsIn F n Tryz.prog 145 #[.int .i64 days, .int .i64 day] w fun e w' => e = .returned (.bool (onF days day)) ∧ w' = w := by
 refine callsIn_of_wp Tryz.func145 rfl h ?_ hro
 simp only [Tryz.ntmps145, List.size_toArray, List.length_cons, List.length_nil, Nat.reduceAdd, Nat.reduceSub, Array.replicate_succ, Array.replicate_zero, List.push_toArray, List.append_toArray, List.nil_append, List.cons_append]
 have hw := QoN h0
 gi_wp2_with (gi_at_call 169; refine (Tryz.wday_in F (n - 1) h2 hro _ _ h0 h1).mono ?_; rintro e w' ⟨rfl, rfl⟩)
 go_ret
 exact ⟨by rw [← QrB hd]; rfl, rfl⟩
def QjL (Bn : Nat) (W W' : World) : Prop := ∀ o, W'.cell? ⟨Bn, o, none⟩ = W.cell? ⟨Bn, o, none⟩
theorem QhV (fr days : Int) : ∀ k, (upto fr days k).length ≤ k
 | 0 => Nat.le_refl _
 | k + 1 => by
  have := QhV fr days k
  simp only [upto, List.length_append]
  split <;> simp <;> omega
theorem Qkt {fr days : Int} {k : Nat} (h : onF days (fr + k) = true) : upto fr days (k + 1) = upto fr days k ++ [fr + k] := by simp [upto, h]
theorem Qmz {fr days : Int} {k : Nat} (h : onF days (fr + k) = false) : upto fr days (k + 1) = upto fr days k := by simp [upto, h]
theorem Qjz {fr to days : Int} (h : perE fr to days = 0) : 0 ≤ fr ∧ fr ≤ to ∧ to < 36525 ∧ to - fr < 800 ∧ 1 ≤ days ∧ days ≤ 127 := by
 unfold perE at h
 split at h
 ·omega
 ·split at h
  ·omega
  ·split at h
   ·omega
   ·omega
set_option maxRecDepth 100000 in
set_option maxHeartbeats 2000000 in
theorem Tryz.each1_in (F : Fence) (n : Nat) (h6 : F.fn 143) (hc : F.fn 144) (ho : F.fn 145) (hw : F.fn 169) (hro : F.round = none) (hn : 2 ≤ n) (l Bn : Nat) (fr to days : Int) (J Jx : List Int → World → Prop)
  (W : World) (hJ : AbidesFrom W.heap.size J)
  (hY : ∀ pre x W, J pre W → pre.length < 800 → YieldAt F (n - 1) Tryz.prog l #[.int .i64 x] W fun e W' =>
   (e = .returned (.bool true) ∧ J (pre ++ [x]) W' ∧ QjL Bn W W') ∨ (e = .returned (.bool false) ∧ Jx (pre ++ [x]) W'))
  (hlt : Bn < W.heap.size) (c0 : W.cell? ⟨Bn, 0, none⟩ = some (.int .i64 fr)) (c1 : W.cell? ⟨Bn, 1, none⟩ = some (.int .i64 to)) (c2 : W.cell? ⟨Bn, 2, none⟩ = some (.int .i64 days)) (h0 : J [] W) :
  CallsIn F n Tryz.prog 143 #[.func (.yield l) #[] #[], .pointer (some ⟨Bn, 0, none⟩)] W fun e W' => (∃ v, e = .returned v) ∧
   ((∃ ys, ys = Qc2 fr to days ∧ J ys W') ∨ (∃ pre, True ∧ Jx pre W')) := by
 refine callsIn_of_wp Tryz.func143 rfl h6 ?_ hro
 simp only [Tryz.ntmps143, List.size_toArray, List.length_cons, List.length_nil, Nat.reduceAdd, Nat.reduceSub, Array.replicate_succ, Array.replicate_zero, List.push_toArray, List.append_toArray, List.nil_append, List.cons_append]
 have g1 : 1 ≤ n := by omega
 have g2 : 1 ≤ n - 1 := by omega
 obtain ⟨A, hA⟩ : ∃ A, Obj.cells #[Value.int .i64 fr, Value.int .i64 to, Value.int .i64 days] 74 = A := ⟨_, rfl⟩
 have hJ1 : J [] (W.alloc A) := hJ [] W _ none h0 (World.grownBy_alloc W A none) (fun _ e => by cases e)
 have e0 : (W.alloc A).cell? ⟨Bn, 0, none⟩ = some (.int .i64 fr) := (World.cell?_alloc_past _ _ _ hlt).trans c0
 have e1 : (W.alloc A).cell? ⟨Bn, 1, none⟩ = some (.int .i64 to) := (World.cell?_alloc_past _ _ _ hlt).trans c1
 have e2 : (W.alloc A).cell? ⟨Bn, 2, none⟩ = some (.int .i64 days) := (World.cell?_alloc_past _ _ _ hlt).trans c2
 subst hA
 by_cases hE : perE fr to days = 0
 ·obtain ⟨b0, b1, b2, b3, b4, b5⟩ := Qjz hE
  gi_wp2_with (gi_at_call 144; refine (Tryz.check_in F (n - 1) hc hro _ _ _ _).mono ?_; rintro e w' ⟨rfl, rfl⟩; rw [hE])
  gi_loopw [3] (fun i wr => ∃ k : Nat, i = .int .i64 (fr + k) ∧ fr + k ≤ to + 1 ∧ J (upto fr days k) wr ∧ wr.cell? ⟨Bn, 0, none⟩ = some (.int .i64 fr) ∧ wr.cell? ⟨Bn, 1, none⟩ = some (.int .i64 to) ∧ wr.cell? ⟨Bn, 2, none⟩ = some (.int .i64 days))
   (fun i _ => (to + 1 - intOf i).toNat)
  case atStart => exact ⟨0, by simp, by omega, hJ1, e0, e1, e2⟩
  case round =>
   obtain ⟨k, rfl, hk, hJs, r0, r1, r2⟩ := hrel
   have hul := QhV fr days k
   by_cases hlt : fr + k ≤ to
   ·cases hon : onF days (fr + k) with
    | true =>
     obtain ⟨fn, tmps, assign, body, hy, hR⟩ := hY (upto fr days k) (fr + k) wr hJs (by omega)
     gi_wp2_with (gi_at_call 145; refine (Tryz.on_in F (n - 1) ho hw hro (by omega) _ _ _ (by omega) (by omega) ⟨b4, b5⟩).mono ?_; rintro e w' ⟨rfl, rfl⟩; rw [hon])
     refine hR.mono ?_
     rintro e W3 (⟨rfl, hJ3, hk3⟩ | ⟨rfl, hJx3⟩)
     ·have s0 := (hk3 0).trans r0
      have s1 := (hk3 1).trans r1
      have s2 := (hk3 2).trans r2
      gi_wp2
      go_roundw
      case rel => exact ⟨k + 1, by congr 1; omega, by omega, by rw [Qkt hon]; exact hJ3, s0, s1, s2⟩
      case measure => simp [intOf]; omega
     ·gi_wp2
      refine bodyPost_ret (results_none rfl _ _ _) rfl ?_
      exact ⟨⟨_, rfl⟩, .inr ⟨_, trivial, hJx3⟩⟩
    | false =>
     gi_wp2_with (gi_at_call 145; refine (Tryz.on_in F (n - 1) ho hw hro (by omega) _ _ _ (by omega) (by omega) ⟨b4, b5⟩).mono ?_; rintro e w' ⟨rfl, rfl⟩; rw [hon])
     refine ⟨fun _ h => (by cases h), ?_⟩
     gi_wp2
     go_roundw
     case rel => exact ⟨k + 1, by congr 1; omega, by omega, by rw [Qmz hon]; exact hJs, r0, r1, r2⟩
     case measure => simp [intOf]; omega
   ·have hkk : k = (to + 1 - fr).toNat := by omega
    gi_wp2
    go_end0
    exact ⟨⟨_, rfl⟩, .inl (by unfold Qc2; rw [if_pos hE, ← hkk]; exact hJs)⟩
 ·gi_wp2_with (gi_at_call 144; refine (Tryz.check_in F (n - 1) hc hro _ _ _ _).mono ?_; rintro e w' ⟨rfl, rfl⟩)
  all_goals first | contradiction | skip
  refine bodyPost_ret (results_none rfl _ _ _) rfl ?_
  exact ⟨⟨_, rfl⟩, .inl ⟨_, rfl, by unfold Qc2; rw [if_neg hE]; exact hJ1⟩⟩
set_option maxHeartbeats 1000000 in
theorem Tryz.each_in (F : Fence) (n : Nat) (h5 : F.fn 101) (hro : F.round = none) (fr to days : Int) (w : World) :
  CallsIn F n Tryz.prog 101 #[.agg #[.int .i64 fr, .int .i64 to, .int .i64 days]] w fun e w' => e = .returned (.func (.func 143) #[] #[.pointer (some ⟨w.heap.size, 0, none⟩)]) ∧ w' = w.alloc (.cells #[.int .i64 fr, .int .i64 to, .int .i64 days] 74) := by
 refine callsIn_of_wp Tryz.func101 rfl h5 ?_ hro
 simp only [Tryz.ntmps101, List.size_toArray, List.length_cons, List.length_nil, Nat.reduceAdd, Nat.reduceSub, Array.replicate_succ, Array.replicate_zero, List.push_toArray, List.append_toArray, List.nil_append, List.cons_append]
 gi_wp2
 go_ret
 exact ⟨rfl, rfl⟩
theorem Tryz.each_stops (F : Fence) (n : Nat) (h6 : F.fn 143) (hc : F.fn 144) (ho : F.fn 145) (hw : F.fn 169) (hro : F.round = none) (hn : 2 ≤ n) (Bn : Nat) (fr to days : Int) (w : World) (hlt : Bn < w.heap.size)
  (c0 : w.cell? ⟨Bn, 0, none⟩ = some (.int .i64 fr)) (c1 : w.cell? ⟨Bn, 1, none⟩ = some (.int .i64 to)) (c2 : w.cell? ⟨Bn, 2, none⟩ = some (.int .i64 days)) :
  SeqStopsK F n Tryz.prog 143 #[.pointer (some ⟨Bn, 0, none⟩)] (fun x : Int => #[Value.int .i64 x]) (QjL Bn) (fun ys => ys = Qc2 fr to days) (fun _ => True) 800 w := fun l J Jx W hW hJ _ hY h0 =>
 Tryz.each1_in F n h6 hc ho hw hro hn l Bn fr to days J Jx W hJ hY (Nat.lt_of_lt_of_le hlt hW.size) ((hW.cell (p := ⟨Bn, 0, none⟩) hlt).trans c0) ((hW.cell (p := ⟨Bn, 1, none⟩) hlt).trans c1) ((hW.cell (p := ⟨Bn, 2, none⟩) hlt).trans c2) h0
theorem Qp4 {Bn : Nat} {w : World} (hn : Bn < w.heap.size) (W : World) (l : Nat) (o o' : Obj) (hl : w.heap.size ≤ l) (h : W.heap[l]? = some o) (_ : o.isCells = false) (_ : o.isWalk = false) : QjL Bn W (W.putObj l o') := fun k =>
 World.cell?_of_block (by
  have hl2 := (Array.getElem?_eq_some_iff.1 h).1
  exact (grownBy_putObj' W l o').block Bn (by omega) (by intro e; cases e; omega))
theorem Tryz.info3 : (Tryz.prog.info? 3).map (fun i => (i.zero, i.size, i.bytes)) = some (some (.int .i64 0), 1, 8) := by kernel_rfl
theorem QlX {w : World} {base base' : Nat} {e : TypeId} {size : Nat} {v : Value} {n : Nat} {xs : List Value} (h : w.ownsRow base e size v n xs) (hb : base' ≤ base) : w.ownsRow base' e size v n xs := by
 obtain ⟨h1, h2⟩ := h
 refine ⟨h1, ?_⟩
 rcases h2 with h2 | ⟨g, cap, cur, a, b, c⟩
 ·exact .inl h2
 ·exact .inr ⟨g, cap, cur, a, Nat.le_trans hb b, c⟩
set_option maxRecDepth 100000 in
set_option maxHeartbeats 2000000 in
theorem Tryz.Count_in (F : Fence) (n : Nat) (h3 : F.fn 42) (h5 : F.fn 101) (h6 : F.fn 143) (hc : F.fn 144) (ho : F.fn 145) (hw : F.fn 169) (hro : F.round = none) (hn : 4 ≤ n) (fr to days : Int) (w : World) :
  CallsIn F n Tryz.prog 42 #[.agg #[.int .i64 fr, .int .i64 to, .int .i64 days]] w fun e W' => e = .returned (.int .i64 (Qc2 fr to days).length) ∧ Below w.heap.size w W' := by
 have h1 : 1 ≤ n := by omega
 refine callsIn_of_wp_marks Tryz.func42 rfl h3 ?_ hro
 simp only [Tryz.ntmps42, List.size_toArray, List.length_cons, List.length_nil, Nat.reduceAdd, Nat.reduceSub, Array.replicate_succ, Array.replicate_zero, List.push_toArray, List.append_toArray, List.nil_append, List.cons_append]
 gi_wp2_with (gi_at_call 101; refine (Tryz.each_in F (n - 1) h5 hro _ _ _ _).mono ?_; rintro e w' ⟨rfl, rfl⟩)
 have hB0 : Below w.heap.size w (((w.alloc (.cells #[.int .i64 fr, .int .i64 to, .int .i64 days] 74)).alloc (.cells #[.int .i64 0] 3)).alloc (.cells #[.int .i64 fr, .int .i64 to, .int .i64 days] 74)) := (((Below.refl _ w).alloc (Nat.le_refl _) _).alloc (by simp) _).alloc (by simp; omega) _
 have bO := Boxed.new (w.alloc (.cells #[.int .i64 fr, .int .i64 to, .int .i64 days] 74)) 3 (.int .i64 0)
 rw [World.size_alloc] at bO
 have hsz : (((w.alloc (.cells #[.int .i64 fr, .int .i64 to, .int .i64 days] 74)).alloc (.cells #[.int .i64 0] 3)).alloc (.cells #[.int .i64 fr, .int .i64 to, .int .i64 days] 74)).heap.size = w.heap.size + 3 := by simp
 have hq : ∀ o, (((w.alloc (.cells #[.int .i64 fr, .int .i64 to, .int .i64 days] 74)).alloc (.cells #[.int .i64 0] 3)).alloc (.cells #[.int .i64 fr, .int .i64 to, .int .i64 days] 74)).cell? ⟨w.heap.size + 1 + 1, o, none⟩ = #[Value.int .i64 fr, .int .i64 to, .int .i64 days][o]? := fun o => World.cell?_alloc_at _ _ _ _ (by simp)
 have hdl : (Qc2 fr to days).length ≤ 800 := by
  unfold Qc2
  split
  ·rename_i hE
   obtain ⟨b0, b1, b2, b3, b4, b5⟩ := Qjz hE
   have := QhV fr days (to + 1 - fr).toNat
   omega
  ·simp
 refine wpIn_rangeFunc_ownG hro h1 (gf := 143) (lb := #[.pointer (some ⟨w.heap.size + 1 + 1, 0, none⟩)]) rfl h6 (enters_of Tryz.func143 (by kernel_rfl) rfl)
  (Tryz.each_stops F (n - 1) h6 hc ho hw hro (by omega) (w.heap.size + 1 + 1) fr to days _ (by rw [hsz]; omega) (hq 0) (hq 1) (hq 2)) (fun h k o => (k o).trans (h o)) (Qp4 (by rw [hsz]; omega)) (Below.refl _ _) (fun _ => rfl)
  (fun pre W => Boxed W (w.heap.size + 1) 3 (.int .i64 pre.length) ∧ Below w.heap.size w W)
  (fun _ _ _ => False)
  (OwnFrom.and (Own.from (boxed_own (w.heap.size + 1) 3 (fun pre : List Int => Value.int .i64 pre.length)) _) (ownFrom_below (Nat.le_refl _) (by rw [hsz]; omega)))
  (fun _ _ _ _ _ hs _ _ => hs)
  ⟨bO.alloc _, hB0⟩
  (fun x => { tmps := #[.agg #[.int .i64 fr, .int .i64 to, .int .i64 days], .pointer (some ⟨w.heap.size, 0, none⟩), .int .i64 0, .pointer (some ⟨w.heap.size + 1, 0, none⟩), .agg #[.int .i64 fr, .int .i64 to, .int .i64 days], .func (.func 143) #[] #[.pointer (some ⟨w.heap.size + 1 + 1, 0, none⟩)], .int .i64 x, undef, undef, undef], defers := [] }) ?assign ?body ?done ?stop
 case assign =>
  intro l x W K hK
  gi_wp2
  simpa using hK
 case body =>
  rintro l pre x W ⟨hv, hB⟩ hlt
  have hc := hv.cell
  have hf := hv.frozen
  gi_wp2
  exact ⟨(KeepsOthers.setCell _ _ _).from _, fun o => World.cell?_of_block (Below.heap_setCell _ _ _ _ (by simp)), by simpa using hv.set (.int .i64 (pre.length + 1)), hB.setCell (p := ⟨w.heap.size + 1, 0, none⟩) (by simp) _⟩
 case done =>
  rintro D ys W hD rfl ⟨hv, hB⟩ hK
  have hc := hv.cell
  gi_wp2
  refine ⟨by simp, .inl ⟨_, _, rfl, run_takeDeferred hK, ?_⟩⟩
  exact ⟨_, results_tmp rfl _ _ _, rfl, hB.trans (belowK_b (w := w) (Nat.le_refl _) W D _ _ (by simp at hD; omega) hK rfl rfl)⟩
 case stop =>
  rintro D c pre W _ _ h _
  exact h.elim
theorem Tryz.Count_walk (fr to days : Int) (w : World) :
  Calls Tryz.prog 42 #[.agg #[.int .i64 fr, .int .i64 to, .int .i64 days]] w fun e W' => e = .returned (.int .i64 (Qc2 fr to days).length) ∧ Below w.heap.size w W' :=
 (callsIn_wide (n := 4)).1 (Tryz.Count_in Fence.wide 4 trivial trivial trivial trivial trivial trivial rfl (by omega) fr to days w)
end Go.Proofs
