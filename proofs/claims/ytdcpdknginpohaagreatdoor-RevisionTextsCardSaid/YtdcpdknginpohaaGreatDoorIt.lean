/- What iterators yield: slices.Chunk. Conditions: as each says. -/
import Derived.Test.YtdcpdknginpohaaGreatDoorAmC
import Derived.Test.YtdcpdknginpohaaGreatDoorEv
import Derived.Test.YtdcpdknginpohaaGreatDoorCk
set_option linter.unusedVariables false
namespace Go.Proofs
open Go.RowKit Go.Am
def QvQ (P : Program) (B : Nat) (W0 : Base) (f : FuncId) (it : List (List CV) → Option (List (List CV))) : Prop :=
 ∀ cs items, it cs = some items → ∀ (w : World) (h : Hw) (bs : List Nat), Below B W0.W w → (∀ b, w.heap.size ≤ b → h b = 0) → bs.length = cs.length →
  (∀ (i : Nat) c b, cs[i]? = some c → bs[i]? = some b → ∃ vs t fz, w.heap[b]? = some (.cells vs t fz) ∧ CRepV w h c vs.toList ∧ h b = 0 ∧ ∀ i, i < vs.size → ¬ (fz.1 ≤ i ∧ i < fz.2)) →
  (∀ args w', (callFunc f args).run P w' = .ok (.enter f args) w') ∧ ∃ xs : List (Array Value), xs.length = items.length ∧ (∀ (i : Nat) x c, xs[i]? = some x → items[i]? = some c → CRepT w h c x.toList) ∧
   SeqX P f (bs.map fun b => Value.pointer (some (Qam b 0))).toArray xs bs w
theorem Qmf {f : FuncId} (h : (match Tryz.prog.funcs[f]? with | some fn => fn.body.isSome && !(fn.name == "runtime.NumGoroutine") | none => false) = true) : ∀ vs w, (callFunc f vs).run Tryz.prog w = .ok (.enter f vs) w := by
 intro vs w
 cases hf : Tryz.prog.funcs[f]? with
 | none => rw [hf] at h; cases h
 | some fn =>
  rw [hf] at h
  simp only [Bool.and_eq_true, Bool.not_eq_true', beq_eq_false_iff_ne, ne_eq] at h
  obtain ⟨c, hc⟩ := Option.isSome_iff_exists.1 h.1
  simp [callFunc, hf, hc, h.2]
theorem Qny : ∀ (n : Nat) (l : List (List CV)), l.length ≤ n → (Qg4 n l).length = (l.length + 4) / 5
 | 0, l, h => by
  have : l = [] := List.eq_nil_of_length_eq_zero (by omega)
  subst this; rfl
 | n + 1, l, h => by
  unfold Qg4
  cases l with
  | nil => rfl
  | cons a t =>
   simp only [List.isEmpty_cons, cond_false, List.length_cons] at h ⊢
   rw [Qny n _ (by simp; omega)]
   simp
   omega
theorem Qn6 : ∀ (n : Nat) (l : List (List CV)) (i : Nat), l.length ≤ n → 5 * i < l.length → (Qg4 n l)[i]? = some ((l.drop (5 * i)).take 5)
 | 0, l, i, h, hi => by omega
 | n + 1, l, i, h, hi => by
  unfold Qg4
  cases l with
  | nil => simp at hi
  | cons a t =>
   simp only [List.isEmpty_cons, cond_false]
   cases i with
   | zero => simp
   | succ i =>
    rw [List.getElem?_cons_succ, Qn6 n _ i (by simp at h ⊢; omega) (by simp at hi ⊢; omega), List.drop_drop]
    congr 3
    omega
theorem Qw3 {B : Nat} {W0 : Base} : QvQ Tryz.prog B W0 165 itChunk := by
 intro cs items hi w h bs hbel hz hlen hbox
 refine ⟨fun args w' => Qmf (by kernel_rfl) args w', ?_⟩
 unfold itChunk at hi
 split at hi
 ·rename_i nn l n
  cases hc : (decide (n = 5) && decide (l.length ≤ 10000000) && l.all (·.length == 1)) with
  | false => rw [hc, cond_false] at hi; cases hi
  | true =>
   rw [hc, cond_true] at hi
   simp only [Bool.and_eq_true, decide_eq_true_eq, List.all_eq_true, beq_iff_eq] at hc
   obtain ⟨⟨rfl, hL⟩, hone⟩ := hc
   obtain rfl := Option.some.inj hi
   obtain ⟨B1, B2, rfl⟩ : ∃ B1 B2, bs = [B1, B2] := by
    match bs, hlen with
    | [B1, B2], _ => exact ⟨B1, B2, rfl⟩
   obtain ⟨vs1, t1, fz1, q1, q2, _⟩ := hbox 0 _ B1 rfl rfl
   obtain ⟨vs2, t2, fz2, p1, p2, _⟩ := hbox 1 _ B2 rfl rfl
   simp only [CRepV, CRep] at q2 p2
   obtain ⟨v1, _, hv1, _, q2, rfl⟩ := q2
   obtain ⟨v2, _, hv2, _, rfl, rfl⟩ := p2
   have c0 : w.cell? ⟨B1, 0, none⟩ = some v1 := by
    simp only [World.cell?, q1]
    have : vs1.toList[0]? = some v1 := by rw [hv1]; rfl
    simpa using this
   have c1 : w.cell? ⟨B2, 0, none⟩ = some (.int .i64 5) := by
    simp only [World.cell?, p1]
    have : vs2.toList[0]? = some (.int .i64 5) := by rw [hv2]; rfl
    simpa using this
   obtain ⟨ad, b, o, cap, rfl, hcap, had, hsub⟩ : ∃ ad b o cap, v1 = .slice ad l.length cap ∧ l.length ≤ cap ∧ (0 < l.length → ad = some ⟨b, o, none⟩) ∧
     (0 < l.length → o + l.length ≤ h b ∧ CRepLL w h b o l) := by
    rcases q2 with ⟨_, rfl, rfl⟩ | ⟨_, b, off, cap, es, ⟨ad, h1, h2⟩, h3, h4, h5, h6⟩
    ·exact ⟨none, 0, 0, 0, rfl, Nat.le_refl _, fun q => by simp at q, fun q => by simp at q⟩
    ·refine ⟨some ad, b, off, cap, h1, h3, fun q => congrArg some (h2 (.inr (by omega))), fun q => ?_⟩
     have : es = 1 := by
      cases l with
      | nil => simp at q
      | cons a t => rw [← h4 a (by simp), hone a (by simp)]
     subst this
     exact ⟨by omega, h6⟩
   refine ⟨_, ?_, ?_, Tryz.chunk_seq hL hcap had c0 c1⟩
   ·simp only [List.length_map, List.length_range]
    rw [Qny _ _ (Nat.le_refl _)]
   ·intro i x c hx hc
    rw [List.getElem?_map] at hx hc
    by_cases hi : 5 * i < l.length
    ·rw [Qn6 _ _ i (Nat.le_refl _) hi] at hc
     rw [List.getElem?_range (by omega)] at hx
     simp only [Option.map_some, Option.some.injEq] at hx hc
     subst hx; subst hc
     obtain ⟨s1, s2⟩ := hsub (by omega)
     simp only [CRepT]
     refine ⟨_, _, rfl, ?_, rfl⟩
     have hlen2 : ((l.drop (5 * i)).take 5).length = min 5 (l.length - 5 * i) := by simp
     rw [← hlen2]
     simp only [CRep]
     refine .inr ⟨trivial, b, o + 5 * i, _, 1, .mk rfl, Nat.le_refl _, fun c hc => hone c (List.mem_of_mem_drop (List.mem_of_mem_take hc)), by rw [hlen2]; omega, ?_⟩
     have e1 : (l.drop (5 * i)).take 5 = (l.take (min (5 * i + 5) l.length)).drop (5 * i) := by
      rw [List.take_drop]
      congr 1
      by_cases q : 5 * i + 5 ≤ l.length
      ·rw [Nat.min_eq_left q]
      ·rw [Nat.min_eq_right (by omega), List.take_of_length_le (by omega), List.take_of_length_le (Nat.le_refl _)]
     rw [e1]
     have := s2.part (lo := 5 * i) (hi := min (5 * i + 5) l.length) (es := 1) hone (by omega) (by omega)
     simpa using this
    ·rw [List.getElem?_eq_none (by simp; omega)] at hx
     cases hx
 ·cases hi
theorem QsV {fr days : Int} : ∀ (k m : Nat), k < m → onF days (fr + k) = true → (upto fr days m)[(upto fr days k).length]? = some (fr + k)
 | k, 0, h, _ => by omega
 | k, m + 1, h, hon => by
  by_cases e : k = m
  ·subst e
   rw [Qn8 hon]; simp
  ·have ih := QsV k m (by omega) hon
   have hlt := (List.getElem?_eq_some_iff.1 ih).1
   show (upto fr days m ++ _)[_]? = _
   rw [List.getElem?_append_left hlt]; exact ih
theorem Qx4 {B : Nat} {W0 : Base} : QvQ Tryz.prog B W0 179 itEach := by
 intro cs items hi w h bs hbel hz hlen hbox
 refine ⟨fun args w' => Qmf (by kernel_rfl) args w', ?_⟩
 unfold itEach at hi
 split at hi
 ·rename_i fr tq days
  obtain rfl := Option.some.inj hi
  obtain ⟨b, rfl⟩ : ∃ b, bs = [b] := by
   match bs, hlen with
   | [b], _ => exact ⟨b, rfl⟩
  obtain ⟨vs, t, fz, q1, q2, _⟩ := hbox 0 _ b rfl rfl
  simp only [CRepV, CRep] at q2
  obtain ⟨v1, _, hv, _, rfl, v2, _, rfl, _, rfl, v3, _, rfl, _, rfl, rfl⟩ := q2
  have cell : ∀ (i : Nat) u, vs.toList[i]? = some u → w.cell? ⟨b, i, none⟩ = some u := fun i u hu => by
   simp only [World.cell?, q1]
   simpa using hu
  refine ⟨(Qbv fr tq days).map fun d => #[.int .i64 d], by simp, fun i x c hx hc => ?_, ?_⟩
  ·rw [List.getElem?_map] at hx hc
   obtain ⟨d, hd, rfl⟩ := Option.map_eq_some_iff.1 hx
   rw [hd] at hc
   obtain rfl := Option.some.inj hc
   simp [CRepT, CRep]
  ·intro ν l J Jx W g hJ hJx hY h0
   have old : ∀ k, k < w.heap.size → W.heap[k]? = w.heap[k]? := fun k hk => g.block k hk (fun h => h)
   have blt : b < w.heap.size := (Array.getElem?_eq_some_iff.1 q1).1
   have cellW : ∀ (i : Nat) u, vs.toList[i]? = some u → W.cell? ⟨b, i, none⟩ = some u := fun i u hu => by
    rw [← cell i u hu]; exact World.cell?_of_block (old b blt)
   refine callsIn_wide.2 (callsIn_wide.1 ((Tryz.each2_in Fence.wide 2 trivial trivial trivial trivial rfl (by decide) l b fr tq days J Jx W (fun i W' ob h => hJ i W' _ h (GrowX.alloc _ _ _)) (fun k W' hJi hon hk hE => ?_) (Nat.lt_of_lt_of_le blt g.size) (cellW 0 _ (by rw [hv]; rfl)) (cellW 1 _ (by rw [hv]; rfl)) (cellW 2 _ (by rw [hv]; rfl)) h0).mono fun e W' ⟨r1, r2⟩ => ⟨r1, by simpa using r2⟩))
   obtain ⟨p0, p1, p2, p3, p4, p5⟩ := Qnj hE
   obtain ⟨fn, tmps, asg, body, hy, hR⟩ := hY (upto fr days k).length _ W' 1 hJi (by
    rw [List.getElem?_map]
    unfold Qbv
    rw [if_pos hE, QsV k _ (by omega) hon]; rfl)
   refine ⟨fn, tmps, asg, body, hy, hR.mono ?_⟩
   rintro e W2 (⟨h1, h2, h3⟩ | h)
   ·exact .inl ⟨h1, h2, fun o => World.cell?_of_block (h3 b (by simp))⟩
   ·exact .inr h
 ·cases hi
theorem Qyo {B : Nat} {W0 : Base} (hK : W0.K = KK) : Qr8 Tryz.prog B W0 := by
 intro f it hit
 rw [hK] at hit
 have hit : QuT f = some it := hit
 unfold QuT at hit
 cases h1 : f == 165 with
 | true =>
  rw [h1, cond_true] at hit
  obtain rfl : f = 165 := by simpa using h1
  obtain rfl := Option.some.inj hit
  exact Qw3
 | false =>
 rw [h1, cond_false] at hit
 cases h2 : f == 179 with
 | true =>
  rw [h2, cond_true] at hit
  obtain rfl : f = 179 := by simpa using h2
  obtain rfl := Option.some.inj hit
  exact Qx4
 | false =>
 rw [h2, cond_false] at hit
 cases hit
end Go.Proofs
