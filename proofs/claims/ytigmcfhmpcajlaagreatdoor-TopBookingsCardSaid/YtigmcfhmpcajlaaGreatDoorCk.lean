/- Iterators as the kit walks them: slices.Chunk of texts by five. Conditions: as each says. -/
import Derived.Test.YtigmcfhmpcajlaaGreatDoorAmC
import Derived.RangeFuncBox
import Derived.RangeFuncLeaves
import Derived.RangeFuncNested
import Derived.Shelf.Abstract
import Derived.WalkKit
import Derived.OwnWalkIn
import Derived.TacticsInMore
import Derived.LoopNIn
import Derived.LoopIn
import Derived.Outline
import Derived.BigRegionIn
import Derived.Test.YtigmcfhmpcajlaaGreatDoorProg
import Derived.Test.YtigmcfhmpcajlaaGreatDoorWp
set_option linter.unusedVariables false
namespace Go.Proofs
open Go.RowKit Go.Shelf Go.Am
attribute [local go_sem] Oper.semAt_some
set_option maxRecDepth 100000 in
set_option maxHeartbeats 4000000 in
theorem Tryz.values1_in (l B1 b o L cap : Nat) (ad : Option Addr) (zs : List Int) (hz : zs.length = L) (hL : L ≤ 10000000) (hcap : L ≤ cap) (had : 0 < L → ad = some ⟨b, o, none⟩)
  (J : Nat → World → Prop) (Jx : World → Prop) (hdr : ∀ i W, J i W → J i W.drew)
  (W : World) (hY : ∀ i W z, J i W → zs[i]? = some z → YieldAt Fence.wide 0 Tryz.prog l #[.int .i64 z] W fun e W' => (e = .returned (.bool true) ∧ J (i + 1) W') ∨ (e = .returned (.bool false) ∧ Jx W'))
  (hC : ∀ i W, J i W → ∀ (k : Nat) z, zs[k]? = some z → W.cell? ⟨b, o + k, none⟩ = some (.int .i64 z))
  (c0 : W.cell? ⟨B1, 0, none⟩ = some (.slice ad L cap)) (h0 : J 0 W) :
  CallsIn Fence.wide 1 Tryz.prog 107 #[.func (.yield l) #[] #[], .pointer (some ⟨B1, 0, none⟩)] W fun e W' => (∃ v, e = .returned v) ∧ (J L W' ∨ Jx W') := by
 refine callsIn_of_wp Tryz.func107 rfl trivial ?_ rfl
 simp only [Tryz.ntmps107, List.size_toArray, List.length_cons, List.length_nil, Nat.reduceAdd, Nat.reduceSub, Array.replicate_succ, Array.replicate_zero, List.push_toArray, List.append_toArray, List.nil_append, List.cons_append]
 gi_wp2
 gi_loopw [7] (fun i wr => ∃ k : Nat, i = .int .i64 (k : Int) ∧ k ≤ L ∧ J k wr) (fun i _ => ((L : Int) + 1 - intOf i).toNat)
 case atStart => exact ⟨0, by simp, by omega, h0⟩
 case round =>
  obtain ⟨k, rfl, hk, hJs⟩ := hrel
  by_cases hlt : k < L
  ·have had := had (by omega)
   subst had
   obtain ⟨z, hzk⟩ : ∃ z, zs[k]? = some z := ⟨_, List.getElem?_eq_getElem (by omega)⟩
   have r := hC k wr hJs k z hzk
   obtain ⟨fn, tmps, assign, body, hy, hR⟩ := hY k _ z hJs hzk
   gi_wp2
   refine hR.mono ?_
   rintro en W3 (⟨rfl, hJ3⟩ | ⟨rfl, hJx3⟩)
   ·gi_wp2
    exact ⟨⟨k + 1, by congr 1, by omega, hJ3⟩, by simp [intOf]; omega⟩
   ·gi_wp2
    refine bodyPost_ret (results_none rfl _ _ _) rfl ?_
    exact ⟨⟨_, rfl⟩, .inr hJx3⟩
  ·have hkk : k = L := by omega
   subst hkk
   gi_wp2
   go_end0
   exact ⟨⟨_, rfl⟩, .inl hJs⟩
theorem Tryz.values_seq {C : Nat → Nat → Prop} {w : World} {B1 b o L cap : Nat} {ad : Option Addr} (zs : List Int) (hz : zs.length = L) (hL : L ≤ 10000000) (hcap : L ≤ cap) (had : 0 < L → ad = some ⟨b, o, none⟩)
  (hC : ∀ (k : Nat) z, zs[k]? = some z → C b (o + k) ∧ w.cell? ⟨b, o + k, none⟩ = some (.int .i64 z)) (c0 : w.cell? ⟨B1, 0, none⟩ = some (.slice ad L cap)) :
  SeqX Tryz.prog 107 #[.pointer (some ⟨B1, 0, none⟩)] (zs.map fun z => #[.int .i64 z]) [B1] C w := by
 intro ν l J Jx W g hJ hJx hJC hY h0
 have old : ∀ k, k < w.heap.size → W.heap[k]? = w.heap[k]? := fun k hk => g.block k hk (fun h => h)
 have cell : W.cell? ⟨B1, 0, none⟩ = some (.slice ad L cap) := by
  have hlt : B1 < w.heap.size := by
   refine Decidable.byContradiction fun hn => ?_
   simp [World.cell?, Array.getElem?_eq_none (Nat.le_of_not_lt hn)] at c0
  rw [← c0]; exact World.cell?_of_block (old B1 hlt)
 refine callsIn_wide.2 (callsIn_wide.1 ((Tryz.values1_in l B1 b o L cap ad zs hz hL hcap had J Jx (fun i W' h => hJ i W' _ h ⟨rfl, rfl, rfl, Nat.le_refl _, fun _ _ _ => rfl, fun _ _ h => h⟩) W (fun i W' z hJi hi => ?_)
  (fun i W' hJi k z hk => (hJC i W' hJi b (o + k) (hC k z hk).1).trans (hC k z hk).2) cell h0).mono fun e W' ⟨q1, q2⟩ => ⟨q1, by simpa [hz] using q2⟩))
 obtain ⟨fn, tmps, asg, body, hy, hR⟩ := hY i _ W' 0 hJi (by rw [List.getElem?_map, hi]; rfl)
 refine ⟨fn, tmps, asg, body, hy, hR.mono ?_⟩
 rintro e W2 (⟨h1, h2, _⟩ | h)
 ·exact .inl ⟨h1, h2⟩
 ·exact .inr h
attribute [local go_sem] Oper.semAt_some
set_option maxRecDepth 100000 in
set_option maxHeartbeats 2000000 in
theorem Tryz.each2_in (F : Fence) (n : Nat) (h6 : F.fn 143) (hc : F.fn 144) (ho : F.fn 145) (hw : F.fn 169) (hro : F.round = none) (hn : 2 ≤ n) (l Bn : Nat) (fr to days : Int) (J : Nat → World → Prop) (Jx : World → Prop)
  (W : World) (hJ : ∀ i W' ob, J i W' → J i (W'.alloc ob))
  (hY : ∀ (k : Nat) W, J (upto fr days k).length W → onF days (fr + k) = true → fr + k ≤ to → perE fr to days = 0 → YieldAt F (n - 1) Tryz.prog l #[.int .i64 (fr + k)] W fun e W' =>
   (e = .returned (.bool true) ∧ J ((upto fr days k).length + 1) W' ∧ QjL Bn W W') ∨ (e = .returned (.bool false) ∧ Jx W'))
  (hlt : Bn < W.heap.size) (c0 : W.cell? ⟨Bn, 0, none⟩ = some (.int .i64 fr)) (c1 : W.cell? ⟨Bn, 1, none⟩ = some (.int .i64 to)) (c2 : W.cell? ⟨Bn, 2, none⟩ = some (.int .i64 days)) (h0 : J 0 W) :
  CallsIn F n Tryz.prog 143 #[.func (.yield l) #[] #[], .pointer (some ⟨Bn, 0, none⟩)] W fun e W' => (∃ v, e = .returned v) ∧
   (J (Qc2 fr to days).length W' ∨ Jx W') := by
 refine callsIn_of_wp Tryz.func143 rfl h6 ?_ hro
 simp only [Tryz.ntmps143, List.size_toArray, List.length_cons, List.length_nil, Nat.reduceAdd, Nat.reduceSub, Array.replicate_succ, Array.replicate_zero, List.push_toArray, List.append_toArray, List.nil_append, List.cons_append]
 have g1 : 1 ≤ n := by omega
 have g2 : 1 ≤ n - 1 := by omega
 obtain ⟨A, hA⟩ : ∃ A, Obj.cells #[Value.int .i64 fr, Value.int .i64 to, Value.int .i64 days] 74 = A := ⟨_, rfl⟩
 have hJ1 : J 0 (W.alloc A) := hJ 0 W _ h0
 have e0 : (W.alloc A).cell? ⟨Bn, 0, none⟩ = some (.int .i64 fr) := (World.cell?_alloc_past _ _ _ hlt).trans c0
 have e1 : (W.alloc A).cell? ⟨Bn, 1, none⟩ = some (.int .i64 to) := (World.cell?_alloc_past _ _ _ hlt).trans c1
 have e2 : (W.alloc A).cell? ⟨Bn, 2, none⟩ = some (.int .i64 days) := (World.cell?_alloc_past _ _ _ hlt).trans c2
 subst hA
 by_cases hE : perE fr to days = 0
 ·obtain ⟨b0, b1, b2, b3, b4, b5⟩ := Qjz hE
  gi_wp2_with (gi_at_call 144; refine (Tryz.check_in F (n - 1) hc hro _ _ _ _).mono ?_; rintro e w' ⟨rfl, rfl⟩; rw [hE])
  gi_loopw [3] (fun i wr => ∃ k : Nat, i = .int .i64 (fr + k) ∧ fr + k ≤ to + 1 ∧ J (upto fr days k).length wr ∧ wr.cell? ⟨Bn, 0, none⟩ = some (.int .i64 fr) ∧ wr.cell? ⟨Bn, 1, none⟩ = some (.int .i64 to) ∧ wr.cell? ⟨Bn, 2, none⟩ = some (.int .i64 days))
   (fun i _ => (to + 1 - intOf i).toNat)
  case atStart => exact ⟨0, by simp, by omega, hJ1, e0, e1, e2⟩
  case round =>
   obtain ⟨k, rfl, hk, hJs, r0, r1, r2⟩ := hrel
   have hul := QhV fr days k
   by_cases hlt : fr + k ≤ to
   ·cases hon : onF days (fr + k) with
    | true =>
     obtain ⟨fn, tmps, assign, body, hy, hR⟩ := hY k wr hJs hon (by omega) hE
     gi_wp2_with (gi_at_call 145; refine (Tryz.on_in F (n - 1) ho hw hro (by omega) _ _ _ (by omega) (by omega) ⟨b4, b5⟩).mono ?_; rintro e w' ⟨rfl, rfl⟩; rw [hon])
     refine hR.mono ?_
     rintro e W3 (⟨rfl, hJ3, hk3⟩ | ⟨rfl, hJx3⟩)
     ·have s0 := (hk3 0).trans r0
      have s1 := (hk3 1).trans r1
      have s2 := (hk3 2).trans r2
      gi_wp2
      go_roundw
      case rel => exact ⟨k + 1, by congr 1; omega, by omega, by rw [Qkt hon, List.length_append]; exact hJ3, s0, s1, s2⟩
      case measure => simp [intOf]; omega
     ·gi_wp2
      refine bodyPost_ret (results_none rfl _ _ _) rfl ?_
      exact ⟨⟨_, rfl⟩, .inr hJx3⟩
    | false =>
     gi_wp2_with (gi_at_call 145; refine (Tryz.on_in F (n - 1) ho hw hro (by omega) _ _ _ (by omega) (by omega) ⟨b4, b5⟩).mono ?_; rintro e w' ⟨rfl, rfl⟩; rw [hon])
     refine ⟨fun _ h => (by cases h), ?_⟩
     gi_wp2
     go_roundw
     case rel => exact ⟨k + 1, by congr 1; omega, by omega, by rw [Qmz hon]; exact hJs, r0, r1, r2⟩
     case measure => simp [intOf]; omega
   ·have hkk : k = (to + 1 - fr).toNat := by omega
    gi_wp2
    go_end0
    exact ⟨⟨_, rfl⟩, .inl (by unfold Qc2; rw [if_pos hE, ← hkk]; exact hJs)⟩
 ·gi_wp2_with (gi_at_call 144; refine (Tryz.check_in F (n - 1) hc hro _ _ _ _).mono ?_; rintro e w' ⟨rfl, rfl⟩)
  all_goals first | contradiction | skip
  refine bodyPost_ret (results_none rfl _ _ _) rfl ?_
  exact ⟨⟨_, rfl⟩, .inl (by unfold Qc2; rw [if_neg hE]; exact hJ1)⟩
end Go.Proofs
