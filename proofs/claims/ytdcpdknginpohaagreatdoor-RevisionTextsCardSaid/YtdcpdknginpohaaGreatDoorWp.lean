/- Walks of period.Days, period.Count, period.Normal: loops over the iterator period.each. Conditions: as each says. -/
import Derived.RangeFuncBox
import Derived.RangeFuncLeaves
import Derived.RangeFuncNested
import Derived.Shelf.Abstract
import Derived.WalkKit
import Derived.OwnWalkIn
import Derived.TacticsInMore
import Derived.LoopNIn
import Derived.LoopIn
import Derived.Maps.AppendAt
import Derived.Outline
import Derived.Test.YtdcpdknginpohaaGreatDoorProg
import Derived.Test.YtdcpdknginpohaaGreatDoorDf
namespace Go.Proofs
open Go.RowKit Go.Shelf
attribute [local go_sem] Oper.semAt_some
set_option maxHeartbeats 1000000 in
theorem Tryz.check_in (F : Fence) (n : Nat) (h : F.fn 63) (hro : F.round = none) (fr to days : Int) (w : World) :
  CallsIn F n Tryz.prog 63 #[.agg #[.int .i64 fr, .int .i64 to, .int .i64 days]] w fun e w' => e = .returned (.int .i64 (perE fr to days)) ∧ w' = w.alloc (.cells #[.int .i64 fr, .int .i64 to, .int .i64 days] 28) := by
 refine callsIn_of_wp Tryz.func63 rfl h ?_ hro
 simp only [Tryz.ntmps63, List.size_toArray, List.length_cons, List.length_nil, Nat.reduceAdd, Nat.reduceSub, Array.replicate_succ, Array.replicate_zero, List.push_toArray, List.append_toArray, List.nil_append, List.cons_append]
 unfold perE
 gi_wp2
 all_goals (go_ret; exact ⟨rfl, rfl⟩)
theorem Qvx {day : Int} (h0 : 0 ≤ day) : 0 ≤ QfU day ∧ QfU day ≤ 6 := by
 have h1 : 0 ≤ Int.tmod day 7 := Int.tmod_nonneg _ h0
 unfold QfU
 have h3 : 0 ≤ Int.tmod (Int.tmod day 7 + 12) 7 := Int.tmod_nonneg _ (by omega)
 have h4 : Int.tmod (Int.tmod day 7 + 12) 7 < 7 := Int.tmod_lt_of_pos _ (by omega)
 omega
theorem Qwf {day : Int} (h0 : 0 ≤ day) : (day % 7 + 12) % 7 = QfU day := by
 unfold QfU
 rw [Int.tmod_eq_emod_of_nonneg h0, Int.tmod_eq_emod_of_nonneg (by omega)]
set_option maxHeartbeats 1000000 in
theorem Tryz.wday_in (F : Fence) (n : Nat) (h : F.fn 132) (hro : F.round = none) (day : Int) (w : World) (h0 : 0 ≤ day) (h1 : day < 36525) :
  CallsIn F n Tryz.prog 132 #[.int .i64 day] w fun e w' => e = .returned (.int .i64 (QfU day)) ∧ w' = w := by
 refine callsIn_of_wp Tryz.func132 rfl h ?_ hro
 simp only [Tryz.ntmps132, List.size_toArray, List.length_cons, List.length_nil, Nat.reduceAdd, Nat.reduceSub, Array.replicate_succ, Array.replicate_zero, List.push_toArray, List.append_toArray, List.nil_append, List.cons_append]
 gi_wp2
 go_ret
 exact ⟨by rw [Qwf h0]; rfl, rfl⟩
theorem Qxp : ∀ x : Fin 128, bits BinOp.and IntKind.i64 (x.val : Int) 1 = (x.val : Int) % 2 := by decide +kernel
theorem Qyt {days day : Int} (hd : 1 ≤ days ∧ days ≤ 127) : (bits BinOp.and IntKind.i64 (days / 2 ^ (QfU day).toNat) 1 == 1) = onF days day := by
 have hp : (0 : Int) < 2 ^ (QfU day).toNat := Int.pow_pos (by decide)
 have h1 : 0 ≤ days / 2 ^ (QfU day).toNat := Int.ediv_nonneg (by omega) (by omega)
 have h2 : days / 2 ^ (QfU day).toNat ≤ 127 := Int.le_trans (Int.ediv_le_self _ (by omega)) hd.2
 unfold onF
 obtain ⟨x, hx⟩ : ∃ x : Nat, days / 2 ^ (QfU day).toNat = x := ⟨_, (Int.toNat_of_nonneg h1).symm⟩
 rw [hx] at h2 ⊢
 have := Qxp ⟨x, by omega⟩
 simp only at this
 rw [this]
set_option maxHeartbeats 1000000 in
theorem Tryz.on_in (F : Fence) (n : Nat) (h : F.fn 64) (h2 : F.fn 132) (hro : F.round = none) (hn : 1 ≤ n) (days day : Int) (w : World) (h0 : 0 ≤ day) (h1 : day < 36525) (hd : 1 ≤ days ∧ days ≤ 127) :
  CallsIn F n Tryz.prog 64 #[.int .i64 days, .int .i64 day] w fun e w' => e = .returned (.bool (onF days day)) ∧ w' = w := by
 refine callsIn_of_wp Tryz.func64 rfl h ?_ hro
 simp only [Tryz.ntmps64, List.size_toArray, List.length_cons, List.length_nil, Nat.reduceAdd, Nat.reduceSub, Array.replicate_succ, Array.replicate_zero, List.push_toArray, List.append_toArray, List.nil_append, List.cons_append]
 have hw := Qvx h0
 gi_wp2_with (gi_at_call 132; refine (Tryz.wday_in F (n - 1) h2 hro _ _ h0 h1).mono ?_; rintro e w' ⟨rfl, rfl⟩)
 go_ret
 exact ⟨by rw [← Qyt hd]; rfl, rfl⟩
def QkJ (Bn : Nat) (W W' : World) : Prop := ∀ o, W'.cell? ⟨Bn, o, none⟩ = W.cell? ⟨Bn, o, none⟩
theorem Qk7 (fr days : Int) : ∀ k, (upto fr days k).length ≤ k
 | 0 => Nat.le_refl _
 | k + 1 => by
  have := Qk7 fr days k
  simp only [upto, List.length_append]
  split <;> simp <;> omega
theorem Qn8 {fr days : Int} {k : Nat} (h : onF days (fr + k) = true) : upto fr days (k + 1) = upto fr days k ++ [fr + k] := by simp [upto, h]
theorem Qrp {fr days : Int} {k : Nat} (h : onF days (fr + k) = false) : upto fr days (k + 1) = upto fr days k := by simp [upto, h]
theorem Qnj {fr to days : Int} (h : perE fr to days = 0) : 0 ≤ fr ∧ fr ≤ to ∧ to < 36525 ∧ to - fr < 800 ∧ 1 ≤ days ∧ days ≤ 127 := by
 unfold perE at h
 split at h
 ·omega
 ·split at h
  ·omega
  ·split at h
   ·omega
   ·omega
set_option maxRecDepth 100000 in
set_option maxHeartbeats 2000000 in
theorem Tryz.each1_in (F : Fence) (n : Nat) (h6 : F.fn 179) (hc : F.fn 63) (ho : F.fn 64) (hw : F.fn 132) (hro : F.round = none) (hn : 2 ≤ n) (l Bn : Nat) (fr to days : Int) (J Jx : List Int → World → Prop)
  (W : World) (hJ : AbidesFrom W.heap.size J)
  (hY : ∀ pre x W, J pre W → pre.length < 800 → YieldAt F (n - 1) Tryz.prog l #[.int .i64 x] W fun e W' =>
   (e = .returned (.bool true) ∧ J (pre ++ [x]) W' ∧ QkJ Bn W W') ∨ (e = .returned (.bool false) ∧ Jx (pre ++ [x]) W'))
  (hlt : Bn < W.heap.size) (c0 : W.cell? ⟨Bn, 0, none⟩ = some (.int .i64 fr)) (c1 : W.cell? ⟨Bn, 1, none⟩ = some (.int .i64 to)) (c2 : W.cell? ⟨Bn, 2, none⟩ = some (.int .i64 days)) (h0 : J [] W) :
  CallsIn F n Tryz.prog 179 #[.func (.yield l) #[] #[], .pointer (some ⟨Bn, 0, none⟩)] W fun e W' => (∃ v, e = .returned v) ∧
   ((∃ ys, ys = Qbv fr to days ∧ J ys W') ∨ (∃ pre, True ∧ Jx pre W')) := by
 refine callsIn_of_wp Tryz.func179 rfl h6 ?_ hro
 simp only [Tryz.ntmps179, List.size_toArray, List.length_cons, List.length_nil, Nat.reduceAdd, Nat.reduceSub, Array.replicate_succ, Array.replicate_zero, List.push_toArray, List.append_toArray, List.nil_append, List.cons_append]
 have g1 : 1 ≤ n := by omega
 have g2 : 1 ≤ n - 1 := by omega
 obtain ⟨A, hA⟩ : ∃ A, Obj.cells #[Value.int .i64 fr, Value.int .i64 to, Value.int .i64 days] 28 = A := ⟨_, rfl⟩
 have hJ1 : J [] (W.alloc A) := hJ [] W _ none h0 (World.grownBy_alloc W A none) (fun _ e => by cases e)
 have e0 : (W.alloc A).cell? ⟨Bn, 0, none⟩ = some (.int .i64 fr) := (World.cell?_alloc_past _ _ _ hlt).trans c0
 have e1 : (W.alloc A).cell? ⟨Bn, 1, none⟩ = some (.int .i64 to) := (World.cell?_alloc_past _ _ _ hlt).trans c1
 have e2 : (W.alloc A).cell? ⟨Bn, 2, none⟩ = some (.int .i64 days) := (World.cell?_alloc_past _ _ _ hlt).trans c2
 subst hA
 by_cases hE : perE fr to days = 0
 ·obtain ⟨b0, b1, b2, b3, b4, b5⟩ := Qnj hE
  gi_wp2_with (gi_at_call 63; refine (Tryz.check_in F (n - 1) hc hro _ _ _ _).mono ?_; rintro e w' ⟨rfl, rfl⟩; rw [hE])
  gi_loopw [3] (fun i wr => ∃ k : Nat, i = .int .i64 (fr + k) ∧ fr + k ≤ to + 1 ∧ J (upto fr days k) wr ∧ wr.cell? ⟨Bn, 0, none⟩ = some (.int .i64 fr) ∧ wr.cell? ⟨Bn, 1, none⟩ = some (.int .i64 to) ∧ wr.cell? ⟨Bn, 2, none⟩ = some (.int .i64 days))
   (fun i _ => (to + 1 - intOf i).toNat)
  case atStart => exact ⟨0, by simp, by omega, hJ1, e0, e1, e2⟩
  case round =>
   obtain ⟨k, rfl, hk, hJs, r0, r1, r2⟩ := hrel
   have hul := Qk7 fr days k
   by_cases hlt : fr + k ≤ to
   ·cases hon : onF days (fr + k) with
    | true =>
     obtain ⟨fn, tmps, assign, body, hy, hR⟩ := hY (upto fr days k) (fr + k) wr hJs (by omega)
     gi_wp2_with (gi_at_call 64; refine (Tryz.on_in F (n - 1) ho hw hro (by omega) _ _ _ (by omega) (by omega) ⟨b4, b5⟩).mono ?_; rintro e w' ⟨rfl, rfl⟩; rw [hon])
     refine hR.mono ?_
     rintro e W3 (⟨rfl, hJ3, hk3⟩ | ⟨rfl, hJx3⟩)
     ·have s0 := (hk3 0).trans r0
      have s1 := (hk3 1).trans r1
      have s2 := (hk3 2).trans r2
      gi_wp2
      go_roundw
      case rel => exact ⟨k + 1, by congr 1; omega, by omega, by rw [Qn8 hon]; exact hJ3, s0, s1, s2⟩
      case measure => simp [intOf]; omega
     ·gi_wp2
      refine bodyPost_ret (results_none rfl _ _ _) rfl ?_
      exact ⟨⟨_, rfl⟩, .inr ⟨_, trivial, hJx3⟩⟩
    | false =>
     gi_wp2_with (gi_at_call 64; refine (Tryz.on_in F (n - 1) ho hw hro (by omega) _ _ _ (by omega) (by omega) ⟨b4, b5⟩).mono ?_; rintro e w' ⟨rfl, rfl⟩; rw [hon])
     refine ⟨fun _ h => (by cases h), ?_⟩
     gi_wp2
     go_roundw
     case rel => exact ⟨k + 1, by congr 1; omega, by omega, by rw [Qrp hon]; exact hJs, r0, r1, r2⟩
     case measure => simp [intOf]; omega
   ·have hkk : k = (to + 1 - fr).toNat := by omega
    gi_wp2
    go_end0
    exact ⟨⟨_, rfl⟩, .inl (by unfold Qbv; rw [if_pos hE, ← hkk]; exact hJs)⟩
 ·gi_wp2_with (gi_at_call 63; refine (Tryz.check_in F (n - 1) hc hro _ _ _ _).mono ?_; rintro e w' ⟨rfl, rfl⟩)
  all_goals first | contradiction | skip
  refine bodyPost_ret (results_none rfl _ _ _) rfl ?_
  exact ⟨⟨_, rfl⟩, .inl ⟨_, rfl, by unfold Qbv; rw [if_neg hE]; exact hJ1⟩⟩
set_option maxHeartbeats 1000000 in
theorem Tryz.each_in (F : Fence) (n : Nat) (h5 : F.fn 109) (hro : F.round = none) (fr to days : Int) (w : World) :
  CallsIn F n Tryz.prog 109 #[.agg #[.int .i64 fr, .int .i64 to, .int .i64 days]] w fun e w' => e = .returned (.func (.func 179) #[] #[.pointer (some ⟨w.heap.size, 0, none⟩)]) ∧ w' = w.alloc (.cells #[.int .i64 fr, .int .i64 to, .int .i64 days] 28) := by
 refine callsIn_of_wp Tryz.func109 rfl h5 ?_ hro
 simp only [Tryz.ntmps109, List.size_toArray, List.length_cons, List.length_nil, Nat.reduceAdd, Nat.reduceSub, Array.replicate_succ, Array.replicate_zero, List.push_toArray, List.append_toArray, List.nil_append, List.cons_append]
 gi_wp2
 go_ret
 exact ⟨rfl, rfl⟩
theorem Tryz.each_stops (F : Fence) (n : Nat) (h6 : F.fn 179) (hc : F.fn 63) (ho : F.fn 64) (hw : F.fn 132) (hro : F.round = none) (hn : 2 ≤ n) (Bn : Nat) (fr to days : Int) (w : World) (hlt : Bn < w.heap.size)
  (c0 : w.cell? ⟨Bn, 0, none⟩ = some (.int .i64 fr)) (c1 : w.cell? ⟨Bn, 1, none⟩ = some (.int .i64 to)) (c2 : w.cell? ⟨Bn, 2, none⟩ = some (.int .i64 days)) :
  SeqStopsK F n Tryz.prog 179 #[.pointer (some ⟨Bn, 0, none⟩)] (fun x : Int => #[Value.int .i64 x]) (QkJ Bn) (fun ys => ys = Qbv fr to days) (fun _ => True) 800 w := fun l J Jx W hW hJ _ hY h0 =>
 Tryz.each1_in F n h6 hc ho hw hro hn l Bn fr to days J Jx W hJ hY (Nat.lt_of_lt_of_le hlt hW.size) ((hW.cell (p := ⟨Bn, 0, none⟩) hlt).trans c0) ((hW.cell (p := ⟨Bn, 1, none⟩) hlt).trans c1) ((hW.cell (p := ⟨Bn, 2, none⟩) hlt).trans c2) h0
theorem Qri {Bn : Nat} {w : World} (hn : Bn < w.heap.size) (W : World) (l : Nat) (o o' : Obj) (hl : w.heap.size ≤ l) (h : W.heap[l]? = some o) (_ : o.isCells = false) (_ : o.isWalk = false) : QkJ Bn W (W.putObj l o') := fun k =>
 World.cell?_of_block (by
  have hl2 := (Array.getElem?_eq_some_iff.1 h).1
  exact (grownBy_putObj' W l o').block Bn (by omega) (by intro e; cases e; omega))
theorem Tryz.info3 : (Tryz.prog.info? 3).map (fun i => (i.zero, i.size, i.bytes)) = some (some (.int .i64 0), 1, 8) := by kernel_rfl
theorem Qp6 {w : World} {base base' : Nat} {e : TypeId} {size : Nat} {v : Value} {n : Nat} {xs : List Value} (h : w.ownsRow base e size v n xs) (hb : base' ≤ base) : w.ownsRow base' e size v n xs := by
 obtain ⟨h1, h2⟩ := h
 refine ⟨h1, ?_⟩
 rcases h2 with h2 | ⟨g, cap, cur, a, b, c⟩
 ·exact .inl h2
 ·exact .inr ⟨g, cap, cur, a, Nat.le_trans hb b, c⟩
theorem Qub {W w1 : World} {n₀ B Bn : Nat} {e : TypeId} {size : Nat} {v v' : Value} {k : Nat} {xs : List Value} {tmp : Obj} (hrow : W.ownsRow n₀ e size v k xs) (hgrow : (W.alloc tmp).grownBy w1 v.ownBlock) (hB : Bn ≠ B) (hn : Bn < n₀) (hl : Bn < W.heap.size) :
  QkJ Bn W (w1.setCell ⟨B, 0, none⟩ v') := fun o => World.cell?_of_block (by
 rw [Below.heap_setCell _ _ _ _ hB]
 rw [hgrow.block Bn (by simp; omega) (fun e => by have := (hrow.lt Bn e.symm).1; omega)]
 exact Below.heap_alloc _ _ _ hl)
set_option maxRecDepth 100000 in
set_option maxHeartbeats 2000000 in
theorem Tryz.Days_in (F : Fence) (n : Nat) (h3 : F.fn 60) (h5 : F.fn 109) (h6 : F.fn 179) (hc : F.fn 63) (ho : F.fn 64) (hw : F.fn 132) (hro : F.round = none) (hn : 4 ≤ n) (fr to days : Int) (w : World) :
  CallsIn F n Tryz.prog 60 #[.agg #[.int .i64 fr, .int .i64 to, .int .i64 days]] w fun e W' => ∃ v, e = .returned v ∧ W'.ownsRow w.heap.size 3 1 v (Qbv fr to days).length ((Qbv fr to days).map (Value.int .i64)) ∧ (v = .slice none 0 0 ↔ Qbv fr to days = []) ∧ Below w.heap.size w W' := by
 have h1 : 1 ≤ n := by omega
 obtain ⟨i0, hi, hz0, hz1, hz2⟩ := info_parts Tryz.info3
 refine callsIn_of_wp_marks Tryz.func60 rfl h3 ?_ hro
 simp only [Tryz.ntmps60, List.size_toArray, List.length_cons, List.length_nil, Nat.reduceAdd, Nat.reduceSub, Array.replicate_succ, Array.replicate_zero, List.push_toArray, List.append_toArray, List.nil_append, List.cons_append]
 gi_wp2_with (gi_at_call 109; refine (Tryz.each_in F (n - 1) h5 hro _ _ _ _).mono ?_; rintro e w' ⟨rfl, rfl⟩)
 have hB0 : Below w.heap.size w (((w.alloc (.cells #[.int .i64 fr, .int .i64 to, .int .i64 days] 28)).alloc (.cells #[.slice none 0 0] 39)).alloc (.cells #[.int .i64 fr, .int .i64 to, .int .i64 days] 28)) := (((Below.refl _ w).alloc (Nat.le_refl _) _).alloc (by simp) _).alloc (by simp; omega) _
 have bO := Boxed.new (w.alloc (.cells #[.int .i64 fr, .int .i64 to, .int .i64 days] 28)) 39 (.slice none 0 0)
 rw [World.size_alloc] at bO
 have hsz : (((w.alloc (.cells #[.int .i64 fr, .int .i64 to, .int .i64 days] 28)).alloc (.cells #[.slice none 0 0] 39)).alloc (.cells #[.int .i64 fr, .int .i64 to, .int .i64 days] 28)).heap.size = w.heap.size + 3 := by simp
 have hq : ∀ o, (((w.alloc (.cells #[.int .i64 fr, .int .i64 to, .int .i64 days] 28)).alloc (.cells #[.slice none 0 0] 39)).alloc (.cells #[.int .i64 fr, .int .i64 to, .int .i64 days] 28)).cell? ⟨w.heap.size + 1 + 1, o, none⟩ = #[Value.int .i64 fr, .int .i64 to, .int .i64 days][o]? := fun o => World.cell?_alloc_at _ _ _ _ (by simp)
 refine wpIn_rangeFunc_ownG hro h1 (gf := 179) (lb := #[.pointer (some ⟨w.heap.size + 1 + 1, 0, none⟩)]) rfl h6 (enters_of Tryz.func179 (by kernel_rfl) rfl)
  (Tryz.each_stops F (n - 1) h6 hc ho hw hro (by omega) (w.heap.size + 1 + 1) fr to days _ (by rw [hsz]; omega) (hq 0) (hq 1) (hq 2)) (fun h k o => (k o).trans (h o)) (Qri (by rw [hsz]; omega)) (Below.refl _ _) (fun _ => rfl)
  (fun pre W => (∃ v, Boxed W (w.heap.size + 1) 39 v ∧ W.ownsRow (w.heap.size + 3) 3 1 v pre.length (pre.map (Value.int .i64)) ∧ (v = .slice none 0 0 ↔ pre = [])) ∧ (W.cell? ⟨w.heap.size + 1 + 1, 0, none⟩ = some (.int .i64 fr) ∧ Below w.heap.size w W))
  (fun _ _ _ => False)
  (OwnFrom.and (Own.from (holdsRow_own (w.heap.size + 3) (w.heap.size + 1) 39 3 1 (fun pre : List Int => pre.length) (fun pre => pre.map (Value.int .i64)) (fun pre v => v = .slice none 0 0 ↔ pre = [])) _) (OwnFrom.and (Own.from (fun s A B row hs hg hr => cell_kept hs hg hr) _) (ownFrom_below (Nat.le_refl _) (by rw [hsz]; omega))))
  (fun _ _ _ _ _ hs _ _ => hs)
  ⟨⟨_, bO.alloc _, World.ownsRow_nil _ _ _ _, by simp⟩, hq 0, hB0⟩
  (fun x => { tmps := #[.agg #[.int .i64 fr, .int .i64 to, .int .i64 days], .pointer (some ⟨w.heap.size, 0, none⟩), .slice none 0 0, .pointer (some ⟨w.heap.size + 1, 0, none⟩), .int .i64 x, .agg #[.int .i64 fr, .int .i64 to, .int .i64 days], .func (.func 179) #[] #[.pointer (some ⟨w.heap.size + 1 + 1, 0, none⟩)], .int .i64 x, undef, undef, undef, undef, undef], defers := [] }) ?assign ?body ?done ?stop
 case assign =>
  intro l x W K hK
  gi_wp2
  exact hK
 case body =>
  rintro l pre x W ⟨⟨v, hv, hrow, hnil⟩, hcb, hB⟩ hlt
  have hc := hv.cell
  have hbl : w.heap.size + 1 + 1 < W.heap.size := by
   refine Decidable.byContradiction fun hn => ?_
   simp [World.cell?, Array.getElem?_eq_none (Nat.le_of_not_lt hn)] at hcb
  gi_wp2_with (gi_at_builtin; refine wpListIn_append_own _ rfl _ _ 39 rfl (w.heap.size + 3) 3 i0 (.int .i64 0) 1 8 Tryz.underlying39 hi hz0 hz1 hz2 rfl (by decide) _ _ _ rfl (hrow.alloc _) ⟨W.heap.size, 0, none⟩ 1 1 [.int .i64 x] rfl rfl (cell_one_new _ _ _) (by simp [Value.oneCell']) (by unfold maxLen; omega) (by omega) (by simp; omega) ?_; intro v' w1 hown' hgrow _; obtain ⟨g', cap', rfl⟩ := ownsRow_succ hown'; have rowUp := hown'.kept (grownBy_setCell' w1 (w.heap.size + 1) (.slice (some ⟨g', 0, none⟩) (pre.length + 1) cap')) (.inr (fun e => by have := (hown'.lt _ e).1; omega)); have hkb := fun u => Qub (v' := u) (B := w.heap.size + 1) (Bn := w.heap.size + 1 + 1) hrow hgrow (by omega) (by omega) hbl; obtain ⟨hv1, hv2, hr2, hk2, hb2⟩ := hv.appended (e := 3) (by decide) (Qp6 hrow (base' := w.heap.size) (by omega)) hB.size (by omega) (Qp6 hown' (base' := w.heap.size) (by omega)) hgrow; have hc1 := hv1.cell; have hf1 := hv1.frozen)
  exact ⟨hk2.from _, hkb _, ⟨⟨_, hv2, by simpa using rowUp, by simp⟩, ((hkb _ 0).trans hcb), hB.trans hb2⟩⟩
 case done =>
  rintro D ys W hD rfl ⟨⟨v, hv, hrow, hnil⟩, hcb, hB⟩ hK
  have hc := hv.cell
  gi_wp2
  refine ⟨by simp, .inl ⟨_, _, rfl, run_takeDeferred hK, ?_⟩⟩
  exact ⟨_, results_tmp rfl _ _ _, v, rfl, ownsRow_putObj (Qp6 hrow (base' := w.heap.size) (by omega)) _ hK rfl, hnil, hB.trans (belowK_b (w := w) (Nat.le_refl _) W D _ _ (by simp at hD; omega) hK rfl rfl)⟩
 case stop =>
  rintro D c pre W _ _ h _
  exact h.elim
set_option maxRecDepth 100000 in
set_option maxHeartbeats 2000000 in
theorem Tryz.Count_in (F : Fence) (n : Nat) (h3 : F.fn 47) (h5 : F.fn 109) (h6 : F.fn 179) (hc : F.fn 63) (ho : F.fn 64) (hw : F.fn 132) (hro : F.round = none) (hn : 4 ≤ n) (fr to days : Int) (w : World) :
  CallsIn F n Tryz.prog 47 #[.agg #[.int .i64 fr, .int .i64 to, .int .i64 days]] w fun e W' => e = .returned (.int .i64 (Qbv fr to days).length) ∧ Below w.heap.size w W' := by
 have h1 : 1 ≤ n := by omega
 refine callsIn_of_wp_marks Tryz.func47 rfl h3 ?_ hro
 simp only [Tryz.ntmps47, List.size_toArray, List.length_cons, List.length_nil, Nat.reduceAdd, Nat.reduceSub, Array.replicate_succ, Array.replicate_zero, List.push_toArray, List.append_toArray, List.nil_append, List.cons_append]
 gi_wp2_with (gi_at_call 109; refine (Tryz.each_in F (n - 1) h5 hro _ _ _ _).mono ?_; rintro e w' ⟨rfl, rfl⟩)
 have hB0 : Below w.heap.size w (((w.alloc (.cells #[.int .i64 fr, .int .i64 to, .int .i64 days] 28)).alloc (.cells #[.int .i64 0] 3)).alloc (.cells #[.int .i64 fr, .int .i64 to, .int .i64 days] 28)) := (((Below.refl _ w).alloc (Nat.le_refl _) _).alloc (by simp) _).alloc (by simp; omega) _
 have bO := Boxed.new (w.alloc (.cells #[.int .i64 fr, .int .i64 to, .int .i64 days] 28)) 3 (.int .i64 0)
 rw [World.size_alloc] at bO
 have hsz : (((w.alloc (.cells #[.int .i64 fr, .int .i64 to, .int .i64 days] 28)).alloc (.cells #[.int .i64 0] 3)).alloc (.cells #[.int .i64 fr, .int .i64 to, .int .i64 days] 28)).heap.size = w.heap.size + 3 := by simp
 have hq : ∀ o, (((w.alloc (.cells #[.int .i64 fr, .int .i64 to, .int .i64 days] 28)).alloc (.cells #[.int .i64 0] 3)).alloc (.cells #[.int .i64 fr, .int .i64 to, .int .i64 days] 28)).cell? ⟨w.heap.size + 1 + 1, o, none⟩ = #[Value.int .i64 fr, .int .i64 to, .int .i64 days][o]? := fun o => World.cell?_alloc_at _ _ _ _ (by simp)
 have hdl : (Qbv fr to days).length ≤ 800 := by
  unfold Qbv
  split
  ·rename_i hE
   obtain ⟨b0, b1, b2, b3, b4, b5⟩ := Qnj hE
   have := Qk7 fr days (to + 1 - fr).toNat
   omega
  ·simp
 refine wpIn_rangeFunc_ownG hro h1 (gf := 179) (lb := #[.pointer (some ⟨w.heap.size + 1 + 1, 0, none⟩)]) rfl h6 (enters_of Tryz.func179 (by kernel_rfl) rfl)
  (Tryz.each_stops F (n - 1) h6 hc ho hw hro (by omega) (w.heap.size + 1 + 1) fr to days _ (by rw [hsz]; omega) (hq 0) (hq 1) (hq 2)) (fun h k o => (k o).trans (h o)) (Qri (by rw [hsz]; omega)) (Below.refl _ _) (fun _ => rfl)
  (fun pre W => Boxed W (w.heap.size + 1) 3 (.int .i64 pre.length) ∧ Below w.heap.size w W)
  (fun _ _ _ => False)
  (OwnFrom.and (Own.from (boxed_own (w.heap.size + 1) 3 (fun pre : List Int => Value.int .i64 pre.length)) _) (ownFrom_below (Nat.le_refl _) (by rw [hsz]; omega)))
  (fun _ _ _ _ _ hs _ _ => hs)
  ⟨bO.alloc _, hB0⟩
  (fun x => { tmps := #[.agg #[.int .i64 fr, .int .i64 to, .int .i64 days], .pointer (some ⟨w.heap.size, 0, none⟩), .int .i64 0, .pointer (some ⟨w.heap.size + 1, 0, none⟩), .agg #[.int .i64 fr, .int .i64 to, .int .i64 days], .func (.func 179) #[] #[.pointer (some ⟨w.heap.size + 1 + 1, 0, none⟩)], .int .i64 x, undef, undef, undef], defers := [] }) ?assign ?body ?done ?stop
 case assign =>
  intro l x W K hK
  gi_wp2
  simpa using hK
 case body =>
  rintro l pre x W ⟨hv, hB⟩ hlt
  have hc := hv.cell
  have hf := hv.frozen
  gi_wp2
  exact ⟨(KeepsOthers.setCell _ _ _).from _, fun o => World.cell?_of_block (Below.heap_setCell _ _ _ _ (by simp)), by simpa using hv.set (.int .i64 (pre.length + 1)), hB.setCell (p := ⟨w.heap.size + 1, 0, none⟩) (by simp) _⟩
 case done =>
  rintro D ys W hD rfl ⟨hv, hB⟩ hK
  have hc := hv.cell
  gi_wp2
  refine ⟨by simp, .inl ⟨_, _, rfl, run_takeDeferred hK, ?_⟩⟩
  exact ⟨_, results_tmp rfl _ _ _, rfl, hB.trans (belowK_b (w := w) (Nat.le_refl _) W D _ _ (by simp at hD; omega) hK rfl rfl)⟩
 case stop =>
  rintro D c pre W _ _ h _
  exact h.elim
theorem Tryz.Days_walk (fr to days : Int) (w : World) :
  Calls Tryz.prog 60 #[.agg #[.int .i64 fr, .int .i64 to, .int .i64 days]] w fun e W' => ∃ v, e = .returned v ∧ W'.ownsRow w.heap.size 3 1 v (Qbv fr to days).length ((Qbv fr to days).map (Value.int .i64)) ∧ (v = .slice none 0 0 ↔ Qbv fr to days = []) ∧ Below w.heap.size w W' :=
 (callsIn_wide (n := 4)).1 (Tryz.Days_in Fence.wide 4 trivial trivial trivial trivial trivial trivial rfl (by omega) fr to days w)
theorem Tryz.Count_walk (fr to days : Int) (w : World) :
  Calls Tryz.prog 47 #[.agg #[.int .i64 fr, .int .i64 to, .int .i64 days]] w fun e W' => e = .returned (.int .i64 (Qbv fr to days).length) ∧ Below w.heap.size w W' :=
 (callsIn_wide (n := 4)).1 (Tryz.Count_in Fence.wide 4 trivial trivial trivial trivial trivial trivial rfl (by omega) fr to days w)
end Go.Proofs
