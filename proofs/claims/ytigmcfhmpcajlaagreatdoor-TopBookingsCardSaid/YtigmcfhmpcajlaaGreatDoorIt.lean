/- What iterators yield: slices.Chunk. Conditions: as each says. -/
import Derived.Test.YtigmcfhmpcajlaaGreatDoorAmC
import Derived.Test.YtigmcfhmpcajlaaGreatDoorEv
import Derived.Test.YtigmcfhmpcajlaaGreatDoorCk
set_option linter.unusedVariables false
namespace Go.Proofs
open Go.RowKit Go.Am
def QpL (P : Program) (B : Nat) (W0 : Base) (f : FuncId) (it : List (List CV) → Option (List (List CV))) : Prop :=
 ∀ cs items, it cs = some items → ∀ (w : World) (h : Hw) (bs : List Nat), Below B W0.W w → (∀ b, w.heap.size ≤ b → h b = 0) → bs.length = cs.length →
  (∀ (i : Nat) c b, cs[i]? = some c → bs[i]? = some b → ∃ vs t fz, w.heap[b]? = some (.cells vs t fz) ∧ CRepV w h c vs.toList ∧ h b = 0 ∧ ∀ i, i < vs.size → ¬ (fz.1 ≤ i ∧ i < fz.2)) →
  (∀ args w', (callFunc f args).run P w' = .ok (.enter f args) w') ∧ ∃ xs : List (Array Value), xs.length = items.length ∧ (∀ (i : Nat) x c, xs[i]? = some x → items[i]? = some c → CRepT w h c x.toList) ∧
   SeqX P f (bs.map fun b => Value.pointer (some (Qaj b 0))).toArray xs bs (fun b o => o < h b) w
theorem Qje {f : FuncId} (h : (match Tryz.prog.funcs[f]? with | some fn => fn.body.isSome && !(fn.name == "runtime.NumGoroutine") | none => false) = true) : ∀ vs w, (callFunc f vs).run Tryz.prog w = .ok (.enter f vs) w := by
 intro vs w
 cases hf : Tryz.prog.funcs[f]? with
 | none => rw [hf] at h; cases h
 | some fn =>
  rw [hf] at h
  simp only [Bool.and_eq_true, Bool.not_eq_true', beq_eq_false_iff_ne, ne_eq] at h
  obtain ⟨c, hc⟩ := Option.isSome_iff_exists.1 h.1
  simp [callFunc, hf, hc, h.2]
theorem Qnp {fr days : Int} : ∀ (k m : Nat), k < m → onF days (fr + k) = true → (upto fr days m)[(upto fr days k).length]? = some (fr + k)
 | k, 0, h, _ => by omega
 | k, m + 1, h, hon => by
  by_cases e : k = m
  ·subst e
   rw [Qkt hon]; simp
  ·have ih := Qnp k m (by omega) hon
   have hlt := (List.getElem?_eq_some_iff.1 ih).1
   show (upto fr days m ++ _)[_]? = _
   rw [List.getElem?_append_left hlt]; exact ih
theorem QrD {B : Nat} {W0 : Base} : QpL Tryz.prog B W0 143 itEach := by
 intro cs items hi w h bs hbel hz hlen hbox
 refine ⟨fun args w' => Qje (by kernel_rfl) args w', ?_⟩
 unfold itEach at hi
 split at hi
 ·rename_i fr tq days
  obtain rfl := Option.some.inj hi
  obtain ⟨b, rfl⟩ : ∃ b, bs = [b] := by
   match bs, hlen with
   | [b], _ => exact ⟨b, rfl⟩
  obtain ⟨vs, t, fz, q1, q2, _⟩ := hbox 0 _ b rfl rfl
  simp only [CRepV, CRep] at q2
  obtain ⟨v1, _, hv, _, rfl, v2, _, rfl, _, rfl, v3, _, rfl, _, rfl, rfl⟩ := q2
  have cell : ∀ (i : Nat) u, vs.toList[i]? = some u → w.cell? ⟨b, i, none⟩ = some u := fun i u hu => by
   simp only [World.cell?, q1]
   simpa using hu
  refine ⟨(Qc2 fr tq days).map fun d => #[.int .i64 d], by simp, fun i x c hx hc => ?_, ?_⟩
  ·rw [List.getElem?_map] at hx hc
   obtain ⟨d, hd, rfl⟩ := Option.map_eq_some_iff.1 hx
   rw [hd] at hc
   obtain rfl := Option.some.inj hc
   simp [CRepT, CRep]
  ·intro ν l J Jx W g hJ hJx _ hY h0
   have old : ∀ k, k < w.heap.size → W.heap[k]? = w.heap[k]? := fun k hk => g.block k hk (fun h => h)
   have blt : b < w.heap.size := (Array.getElem?_eq_some_iff.1 q1).1
   have cellW : ∀ (i : Nat) u, vs.toList[i]? = some u → W.cell? ⟨b, i, none⟩ = some u := fun i u hu => by
    rw [← cell i u hu]; exact World.cell?_of_block (old b blt)
   refine callsIn_wide.2 (callsIn_wide.1 ((Tryz.each2_in Fence.wide 2 trivial trivial trivial trivial rfl (by decide) l b fr tq days J Jx W (fun i W' ob h => hJ i W' _ h (GrowX.alloc _ _ _)) (fun k W' hJi hon hk hE => ?_) (Nat.lt_of_lt_of_le blt g.size) (cellW 0 _ (by rw [hv]; rfl)) (cellW 1 _ (by rw [hv]; rfl)) (cellW 2 _ (by rw [hv]; rfl)) h0).mono fun e W' ⟨r1, r2⟩ => ⟨r1, by simpa using r2⟩))
   obtain ⟨p0, p1, p2, p3, p4, p5⟩ := Qjz hE
   obtain ⟨fn, tmps, asg, body, hy, hR⟩ := hY (upto fr days k).length _ W' 1 hJi (by
    rw [List.getElem?_map]
    unfold Qc2
    rw [if_pos hE, Qnp k _ (by omega) hon]; rfl)
   refine ⟨fn, tmps, asg, body, hy, hR.mono ?_⟩
   rintro e W2 (⟨h1, h2, h3⟩ | h)
   ·exact .inl ⟨h1, h2, fun o => World.cell?_of_block (h3 b (by simp))⟩
   ·exact .inr h
 ·cases hi
theorem Qoz : ∀ {l : List (List CV)}, l.all Qlz = true → ∃ zs : List Int, l = zs.map fun z => [CV.int .i64 z]
 | [], _ => ⟨[], rfl⟩
 | c :: l, h => by
  simp only [List.all_cons, Bool.and_eq_true] at h
  obtain ⟨zs, rfl⟩ := Qoz h.2
  have h1 := h.1
  unfold Qlz at h1
  split at h1
  ·rename_i z; exact ⟨z :: zs, rfl⟩
  ·cases h1
theorem QpF {B : Nat} {W0 : Base} : QpL Tryz.prog B W0 107 itValues := by
 intro cs items hi w h bs hbel hz hlen hbox
 refine ⟨fun args w' => Qje (by kernel_rfl) args w', ?_⟩
 unfold itValues at hi
 split at hi
 ·rename_i nn l
  cases hc : (decide (l.length ≤ 10000000) && l.all Qlz) with
  | false => rw [hc, cond_false] at hi; cases hi
  | true =>
   rw [hc, cond_true] at hi
   simp only [Bool.and_eq_true, decide_eq_true_eq] at hc
   obtain rfl := Option.some.inj hi
   obtain ⟨zs, rfl⟩ := Qoz hc.2
   obtain ⟨B1, rfl⟩ : ∃ B1, bs = [B1] := by
    match bs, hlen with
    | [B1], _ => exact ⟨B1, rfl⟩
   obtain ⟨vs1, t1, fz1, q1, q2, _⟩ := hbox 0 _ B1 rfl rfl
   simp only [CRepV] at q2
   obtain ⟨v1, _, hv1, _, q2, rfl⟩ := q2
   have c0 : w.cell? ⟨B1, 0, none⟩ = some v1 := by
    simp only [World.cell?, q1]
    have : vs1.toList[0]? = some v1 := by rw [hv1]; rfl
    simpa using this
   obtain ⟨ad, b, o, cap, rfl, hcap, had, hsub⟩ : ∃ ad b o cap, v1 = .slice ad zs.length cap ∧ zs.length ≤ cap ∧ (0 < zs.length → ad = some ⟨b, o, none⟩) ∧
     ∀ (k : Nat) z, zs[k]? = some z → o + k < h b ∧ w.cell? ⟨b, o + k, none⟩ = some (.int .i64 z) := by
    simp only [CRep] at q2
    rcases q2 with ⟨_, h1, rfl⟩ | ⟨_, b, off, cap, es, ⟨ad, h1, h2⟩, h3, h4, h5, h6⟩
    ·have : zs = [] := by simpa using h1
     subst this
     exact ⟨none, 0, 0, 0, rfl, Nat.le_refl _, fun q => by simp at q, fun k z hk => by simp at hk⟩
    ·rw [List.length_map] at h1 h2 h3 h5
     refine ⟨some ad, b, off, cap, h1, h3, fun q => congrArg some (h2 (.inr (by omega))), fun k z hk => ?_⟩
     have hlt : k < zs.length := (List.getElem?_eq_some_iff.1 hk).1
     have : es = 1 := by rw [← h4 [.int .i64 z] (List.mem_map.2 ⟨z, List.mem_of_getElem? hk, rfl⟩)]; rfl
     subst this
     refine ⟨by omega, ?_⟩
     have := CRepLL.get h4 h6 (i := k) (c := [.int .i64 z]) (by rw [List.getElem?_map, hk]; rfl)
     rw [Nat.mul_one] at this
     simp only [CRepC, CRep] at this
     obtain ⟨⟨v, k1, _, rfl⟩, _⟩ := this
     exact k1
   refine ⟨_, ?_, ?_, Tryz.values_seq zs rfl (by simpa using hc.1) hcap had hsub c0⟩
   ·simp
   ·intro i x c hx hc
    rw [List.getElem?_map] at hx hc
    cases hz : zs[i]? with
    | none => rw [hz] at hx; cases hx
    | some z =>
     rw [hz] at hx hc
     simp only [Option.map_some, Option.some.injEq] at hx hc
     subst hx; subst hc
     simp [CRepT, CRep]
 ·cases hi
theorem QrI {B : Nat} {W0 : Base} (hK : W0.K = KK) : Qm8 Tryz.prog B W0 := by
 intro f it hit
 rw [hK] at hit
 have hit : Qpw f = some it := hit
 unfold Qpw at hit
 cases h2 : f == 143 with
 | true =>
  rw [h2, cond_true] at hit
  obtain rfl : f = 143 := by simpa using h2
  obtain rfl := Option.some.inj hit
  exact QrD
 | false =>
 rw [h2, cond_false] at hit
 cases h3 : f == 107 with
 | true =>
  rw [h3, cond_true] at hit
  obtain rfl : f = 107 := by simpa using h3
  obtain rfl := Option.some.inj hit
  exact QpF
 | false =>
 rw [h3, cond_false] at hit
 cases hit
end Go.Proofs
