/- Iterators as the kit walks them: slices.Chunk of texts by five. Conditions: as each says. -/
import Derived.Test.YtdcpdknginpohaaGreatDoorAmC
import Derived.RangeFuncBox
import Derived.RangeFuncLeaves
import Derived.RangeFuncNested
import Derived.Shelf.Abstract
import Derived.WalkKit
import Derived.OwnWalkIn
import Derived.TacticsInMore
import Derived.LoopNIn
import Derived.LoopIn
import Derived.Outline
import Derived.BigRegionIn
import Derived.Test.YtdcpdknginpohaaGreatDoorProg
import Derived.Test.YtdcpdknginpohaaGreatDoorWp
set_option linter.unusedVariables false
namespace Go.Proofs
open Go.RowKit Go.Shelf Go.Am
attribute [local go_sem] Oper.semAt_some
def Qzd (B1 B2 : Nat) (W W' : World) : Prop := W'.cell? ⟨B1, 0, none⟩ = W.cell? ⟨B1, 0, none⟩ ∧ W'.cell? ⟨B2, 0, none⟩ = W.cell? ⟨B2, 0, none⟩
set_option maxRecDepth 100000 in
set_option maxHeartbeats 4000000 in
theorem Tryz.chunk1_in (l B1 B2 b o L cap : Nat) (ad : Option Addr) (hL : L ≤ 10000000) (hcap : L ≤ cap) (had : 0 < L → ad = some ⟨b, o, none⟩)
  (J : Nat → World → Prop) (Jx : World → Prop) (hdr : ∀ i W, J i W → J i W.drew)
  (W : World) (hY : ∀ i W, J i W → 5 * i < L → YieldAt Fence.wide 0 Tryz.prog l #[.slice (some ⟨b, o + 5 * i, none⟩) (min 5 (L - 5 * i)) (min 5 (L - 5 * i))] W fun e W' =>
   (e = .returned (.bool true) ∧ J (i + 1) W' ∧ Qzd B1 B2 W W') ∨ (e = .returned (.bool false) ∧ Jx W'))
  (c0 : W.cell? ⟨B1, 0, none⟩ = some (.slice ad L cap)) (c1 : W.cell? ⟨B2, 0, none⟩ = some (.int .i64 5)) (h0 : J 0 W) :
  CallsIn Fence.wide 1 Tryz.prog 165 #[.func (.yield l) #[] #[], .pointer (some ⟨B1, 0, none⟩), .pointer (some ⟨B2, 0, none⟩)] W fun e W' => (∃ v, e = .returned v) ∧ (J ((L + 4) / 5) W' ∨ Jx W') := by
 refine callsIn_of_wp Tryz.func165 rfl trivial ?_ rfl
 simp only [Tryz.ntmps165, List.size_toArray, List.length_cons, List.length_nil, Nat.reduceAdd, Nat.reduceSub, Array.replicate_succ, Array.replicate_zero, List.push_toArray, List.append_toArray, List.nil_append, List.cons_append]
 gi_wp2
 gi_loopw [4] (fun i wr => ∃ k : Nat, i = .int .i64 ((5 * k : Nat) : Int) ∧ 5 * k ≤ L + 4 ∧ J k wr ∧ wr.cell? ⟨B1, 0, none⟩ = some (.slice ad L cap) ∧ wr.cell? ⟨B2, 0, none⟩ = some (.int .i64 5))
  (fun i _ => ((L : Int) + 5 - intOf i).toNat)
 case atStart => exact ⟨0, by simp, by omega, h0, c0, c1⟩
 case round =>
  obtain ⟨k, rfl, hk, hJs, r0, r1⟩ := hrel
  by_cases hlt : 5 * k < L
  ·have had := had (by omega)
   subst had
   obtain ⟨fn, tmps, assign, body, hy, hR⟩ := hY k _ (hdr _ _ hJs) hlt
   gi_wp2
   gi_region
   have hm : (if ((L - 5 * k : Nat) : Int) < 5 then ((L - 5 * k : Nat) : Int) else 5) = ((min 5 (L - 5 * k) : Nat) : Int) := by split <;> omega
   rw [hm]
   obtain ⟨e, he⟩ : ∃ e, min 5 (L - 5 * k) = e := ⟨_, rfl⟩
   have e1 : 1 ≤ e := by omega
   have e2 : 5 * k + e ≤ L := by omega
   have e3 : 5 * k + 5 ≤ L ∧ e = 5 ∨ L < 5 * k + 5 ∧ 5 * k + e = L := by omega
   rw [he] at hy ⊢
   clear he hm
   gi_wp2
   refine hR.mono ?_
   rintro en W3 (⟨rfl, hJ3, hk3⟩ | ⟨rfl, hJx3⟩)
   ·have s0 := hk3.1.trans r0
    have s1 := hk3.2.trans r1
    gi_wp2
    exact ⟨⟨k + 1, by congr 1, by omega, hJ3, s0, s1⟩, by simp [intOf]; omega⟩
   ·gi_wp2
    refine bodyPost_ret (results_none rfl _ _ _) rfl ?_
    exact ⟨⟨_, rfl⟩, .inr hJx3⟩
  ·have hkk : k = (L + 4) / 5 := by omega
   subst hkk
   gi_wp2
   go_end0
   exact ⟨⟨_, rfl⟩, .inl hJs⟩
theorem Tryz.chunk_seq {w : World} {B1 B2 b o L cap : Nat} {ad : Option Addr} (hL : L ≤ 10000000) (hcap : L ≤ cap) (had : 0 < L → ad = some ⟨b, o, none⟩)
  (c0 : w.cell? ⟨B1, 0, none⟩ = some (.slice ad L cap)) (c1 : w.cell? ⟨B2, 0, none⟩ = some (.int .i64 5)) :
  SeqX Tryz.prog 165 #[.pointer (some ⟨B1, 0, none⟩), .pointer (some ⟨B2, 0, none⟩)]
   ((List.range ((L + 4) / 5)).map fun i => #[.slice (some ⟨b, o + 5 * i, none⟩) (min 5 (L - 5 * i)) (min 5 (L - 5 * i))]) [B1, B2] w := by
 intro ν l J Jx W g hJ hJx hY h0
 have old : ∀ k, k < w.heap.size → W.heap[k]? = w.heap[k]? := fun k hk => g.block k hk (fun h => h)
 have cell : ∀ {k : Nat} {v : Value}, w.cell? ⟨k, 0, none⟩ = some v → W.cell? ⟨k, 0, none⟩ = some v := fun {k v} hv => by
  have hlt : k < w.heap.size := by
   refine Decidable.byContradiction fun hn => ?_
   simp [World.cell?, Array.getElem?_eq_none (Nat.le_of_not_lt hn)] at hv
  rw [← hv]; exact World.cell?_of_block (old k hlt)
 refine callsIn_wide.2 (callsIn_wide.1 ((Tryz.chunk1_in l B1 B2 b o L cap ad hL hcap had J Jx (fun i W' h => hJ i W' _ h ⟨rfl, rfl, rfl, Nat.le_refl _, fun _ _ _ => rfl, fun _ _ h => h⟩) W (fun i W' hJi hi => ?_) (cell c0) (cell c1) h0).mono fun e W' ⟨q1, q2⟩ => ⟨q1, by simpa using q2⟩))
 obtain ⟨fn, tmps, asg, body, hy, hR⟩ := hY i _ W' 0 hJi (by rw [List.getElem?_map, List.getElem?_range (by omega)]; rfl)
 refine ⟨fn, tmps, asg, body, hy, hR.mono ?_⟩
 rintro e W2 (⟨h1, h2, h3⟩ | h)
 ·exact .inl ⟨h1, h2, World.cell?_of_block (h3 B1 (by simp)), World.cell?_of_block (h3 B2 (by simp))⟩
 ·exact .inr h
attribute [local go_sem] Oper.semAt_some
set_option maxRecDepth 100000 in
set_option maxHeartbeats 2000000 in
theorem Tryz.each2_in (F : Fence) (n : Nat) (h6 : F.fn 179) (hc : F.fn 63) (ho : F.fn 64) (hw : F.fn 132) (hro : F.round = none) (hn : 2 ≤ n) (l Bn : Nat) (fr to days : Int) (J : Nat → World → Prop) (Jx : World → Prop)
  (W : World) (hJ : ∀ i W' ob, J i W' → J i (W'.alloc ob))
  (hY : ∀ (k : Nat) W, J (upto fr days k).length W → onF days (fr + k) = true → fr + k ≤ to → perE fr to days = 0 → YieldAt F (n - 1) Tryz.prog l #[.int .i64 (fr + k)] W fun e W' =>
   (e = .returned (.bool true) ∧ J ((upto fr days k).length + 1) W' ∧ QkJ Bn W W') ∨ (e = .returned (.bool false) ∧ Jx W'))
  (hlt : Bn < W.heap.size) (c0 : W.cell? ⟨Bn, 0, none⟩ = some (.int .i64 fr)) (c1 : W.cell? ⟨Bn, 1, none⟩ = some (.int .i64 to)) (c2 : W.cell? ⟨Bn, 2, none⟩ = some (.int .i64 days)) (h0 : J 0 W) :
  CallsIn F n Tryz.prog 179 #[.func (.yield l) #[] #[], .pointer (some ⟨Bn, 0, none⟩)] W fun e W' => (∃ v, e = .returned v) ∧
   (J (Qbv fr to days).length W' ∨ Jx W') := by
 refine callsIn_of_wp Tryz.func179 rfl h6 ?_ hro
 simp only [Tryz.ntmps179, List.size_toArray, List.length_cons, List.length_nil, Nat.reduceAdd, Nat.reduceSub, Array.replicate_succ, Array.replicate_zero, List.push_toArray, List.append_toArray, List.nil_append, List.cons_append]
 have g1 : 1 ≤ n := by omega
 have g2 : 1 ≤ n - 1 := by omega
 obtain ⟨A, hA⟩ : ∃ A, Obj.cells #[Value.int .i64 fr, Value.int .i64 to, Value.int .i64 days] 28 = A := ⟨_, rfl⟩
 have hJ1 : J 0 (W.alloc A) := hJ 0 W _ h0
 have e0 : (W.alloc A).cell? ⟨Bn, 0, none⟩ = some (.int .i64 fr) := (World.cell?_alloc_past _ _ _ hlt).trans c0
 have e1 : (W.alloc A).cell? ⟨Bn, 1, none⟩ = some (.int .i64 to) := (World.cell?_alloc_past _ _ _ hlt).trans c1
 have e2 : (W.alloc A).cell? ⟨Bn, 2, none⟩ = some (.int .i64 days) := (World.cell?_alloc_past _ _ _ hlt).trans c2
 subst hA
 by_cases hE : perE fr to days = 0
 ·obtain ⟨b0, b1, b2, b3, b4, b5⟩ := Qnj hE
  gi_wp2_with (gi_at_call 63; refine (Tryz.check_in F (n - 1) hc hro _ _ _ _).mono ?_; rintro e w' ⟨rfl, rfl⟩; rw [hE])
  gi_loopw [3] (fun i wr => ∃ k : Nat, i = .int .i64 (fr + k) ∧ fr + k ≤ to + 1 ∧ J (upto fr days k).length wr ∧ wr.cell? ⟨Bn, 0, none⟩ = some (.int .i64 fr) ∧ wr.cell? ⟨Bn, 1, none⟩ = some (.int .i64 to) ∧ wr.cell? ⟨Bn, 2, none⟩ = some (.int .i64 days))
   (fun i _ => (to + 1 - intOf i).toNat)
  case atStart => exact ⟨0, by simp, by omega, hJ1, e0, e1, e2⟩
  case round =>
   obtain ⟨k, rfl, hk, hJs, r0, r1, r2⟩ := hrel
   have hul := Qk7 fr days k
   by_cases hlt : fr + k ≤ to
   ·cases hon : onF days (fr + k) with
    | true =>
     obtain ⟨fn, tmps, assign, body, hy, hR⟩ := hY k wr hJs hon (by omega) hE
     gi_wp2_with (gi_at_call 64; refine (Tryz.on_in F (n - 1) ho hw hro (by omega) _ _ _ (by omega) (by omega) ⟨b4, b5⟩).mono ?_; rintro e w' ⟨rfl, rfl⟩; rw [hon])
     refine hR.mono ?_
     rintro e W3 (⟨rfl, hJ3, hk3⟩ | ⟨rfl, hJx3⟩)
     ·have s0 := (hk3 0).trans r0
      have s1 := (hk3 1).trans r1
      have s2 := (hk3 2).trans r2
      gi_wp2
      go_roundw
      case rel => exact ⟨k + 1, by congr 1; omega, by omega, by rw [Qn8 hon, List.length_append]; exact hJ3, s0, s1, s2⟩
      case measure => simp [intOf]; omega
     ·gi_wp2
      refine bodyPost_ret (results_none rfl _ _ _) rfl ?_
      exact ⟨⟨_, rfl⟩, .inr hJx3⟩
    | false =>
     gi_wp2_with (gi_at_call 64; refine (Tryz.on_in F (n - 1) ho hw hro (by omega) _ _ _ (by omega) (by omega) ⟨b4, b5⟩).mono ?_; rintro e w' ⟨rfl, rfl⟩; rw [hon])
     refine ⟨fun _ h => (by cases h), ?_⟩
     gi_wp2
     go_roundw
     case rel => exact ⟨k + 1, by congr 1; omega, by omega, by rw [Qrp hon]; exact hJs, r0, r1, r2⟩
     case measure => simp [intOf]; omega
   ·have hkk : k = (to + 1 - fr).toNat := by omega
    gi_wp2
    go_end0
    exact ⟨⟨_, rfl⟩, .inl (by unfold Qbv; rw [if_pos hE, ← hkk]; exact hJs)⟩
 ·gi_wp2_with (gi_at_call 63; refine (Tryz.check_in F (n - 1) hc hro _ _ _ _).mono ?_; rintro e w' ⟨rfl, rfl⟩)
  all_goals first | contradiction | skip
  refine bodyPost_ret (results_none rfl _ _ _) rfl ?_
  exact ⟨⟨_, rfl⟩, .inl (by unfold Qbv; rw [if_neg hE]; exact hJ1)⟩
end Go.Proofs
