/- What iterators yield: slices.Chunk. Conditions: as each says. -/
import Derived.Test.YtdcpdknginpohaaGreatDoorAmC
import Derived.Test.YtdcpdknginpohaaGreatDoorEv
import Derived.Test.YtdcpdknginpohaaGreatDoorCk
set_option linter.unusedVariables false
namespace Go.Proofs
open Go.RowKit Go.Am
theorem chunksF_len : ∀ (n : Nat) (l : List (List CV)), l.length ≤ n → (chunksF n l).length = (l.length + 4) / 5
  | 0, l, h => by
    have : l = [] := List.eq_nil_of_length_eq_zero (by omega)
    subst this; rfl
  | n + 1, l, h => by
    unfold chunksF
    cases l with
    | nil => rfl
    | cons a t =>
      simp only [List.isEmpty_cons, cond_false, List.length_cons] at h ⊢
      rw [chunksF_len n _ (by simp; omega)]
      simp
      omega
theorem chunksF_get : ∀ (n : Nat) (l : List (List CV)) (i : Nat), l.length ≤ n → 5 * i < l.length → (chunksF n l)[i]? = some ((l.drop (5 * i)).take 5)
  | 0, l, i, h, hi => by omega
  | n + 1, l, i, h, hi => by
    unfold chunksF
    cases l with
    | nil => simp at hi
    | cons a t =>
      simp only [List.isEmpty_cons, cond_false]
      cases i with
      | zero => simp
      | succ i =>
        rw [List.getElem?_cons_succ, chunksF_get n _ i (by simp at h ⊢; omega) (by simp at hi ⊢; omega), List.drop_drop]
        congr 3
        omega
theorem run_enter_it {f : FuncId} (h : (match Tryz.prog.funcs[f]? with | some fn => fn.body.isSome && !(fn.name == "runtime.NumGoroutine") | none => false) = true) : ∀ vs w, (callFunc f vs).run Tryz.prog w = .ok (.enter f vs) w := by
  intro vs w
  cases hf : Tryz.prog.funcs[f]? with
  | none => rw [hf] at h; cases h
  | some fn =>
    rw [hf] at h
    simp only [Bool.and_eq_true, Bool.not_eq_true', beq_eq_false_iff_ne, ne_eq] at h
    obtain ⟨c, hc⟩ := Option.isSome_iff_exists.1 h.1
    simp [callFunc, hf, hc, h.2]
theorem itersOK {B : Nat} {W0 : Base} (hK : W0.K = KK) : IterOK Tryz.prog B W0 := by
  intro f it hit cs items hi w h bs hbel hz hlen hbox
  rw [hK] at hit
  have hit : iters f = some it := hit
  unfold iters at hit
  cases h1 : f == 165 with
  | false => rw [h1, cond_false] at hit; cases hit
  | true =>
    rw [h1, cond_true] at hit
    obtain rfl : f = 165 := by simpa using h1
    obtain rfl := Option.some.inj hit
    refine ⟨fun args w' => run_enter_it (by kernel_rfl) args w', ?_⟩
    unfold itChunk at hi
    split at hi
    · rename_i nn l n
      cases hc : (decide (n = 5) && decide (l.length ≤ 10000000) && l.all (·.length == 1)) with
      | false => rw [hc, cond_false] at hi; cases hi
      | true =>
        rw [hc, cond_true] at hi
        simp only [Bool.and_eq_true, decide_eq_true_eq, List.all_eq_true, beq_iff_eq] at hc
        obtain ⟨⟨rfl, hL⟩, hone⟩ := hc
        obtain rfl := Option.some.inj hi
        obtain ⟨B1, B2, rfl⟩ : ∃ B1 B2, bs = [B1, B2] := by
          match bs, hlen with
          | [B1, B2], _ => exact ⟨B1, B2, rfl⟩
        obtain ⟨vs1, t1, fz1, q1, q2, _⟩ := hbox 0 _ B1 rfl rfl
        obtain ⟨vs2, t2, fz2, p1, p2, _⟩ := hbox 1 _ B2 rfl rfl
        simp only [CRepV, CRep] at q2 p2
        obtain ⟨v1, _, hv1, _, q2, rfl⟩ := q2
        obtain ⟨v2, _, hv2, _, rfl, rfl⟩ := p2
        have c0 : w.cell? ⟨B1, 0, none⟩ = some v1 := by
          simp only [World.cell?, q1]
          have : vs1.toList[0]? = some v1 := by rw [hv1]; rfl
          simpa using this
        have c1 : w.cell? ⟨B2, 0, none⟩ = some (.int .i64 5) := by
          simp only [World.cell?, p1]
          have : vs2.toList[0]? = some (.int .i64 5) := by rw [hv2]; rfl
          simpa using this
        obtain ⟨ad, b, o, cap, rfl, hcap, had, hsub⟩ : ∃ ad b o cap, v1 = .slice ad l.length cap ∧ l.length ≤ cap ∧ (0 < l.length → ad = some ⟨b, o, none⟩) ∧
            (0 < l.length → o + l.length ≤ h b ∧ CRepLL w h b o l) := by
          rcases q2 with ⟨_, rfl, rfl⟩ | ⟨_, b, off, cap, es, ⟨ad, h1, h2⟩, h3, h4, h5, h6⟩
          · exact ⟨none, 0, 0, 0, rfl, Nat.le_refl _, fun q => by simp at q, fun q => by simp at q⟩
          · refine ⟨some ad, b, off, cap, h1, h3, fun q => congrArg some (h2 (.inr (by omega))), fun q => ?_⟩
            have : es = 1 := by
              cases l with
              | nil => simp at q
              | cons a t => rw [← h4 a (by simp), hone a (by simp)]
            subst this
            exact ⟨by omega, h6⟩
        refine ⟨_, ?_, ?_, Tryz.chunk_seq hL hcap had c0 c1⟩
        · simp only [List.length_map, List.length_range]
          rw [chunksF_len _ _ (Nat.le_refl _)]
        · intro i x c hx hc
          rw [List.getElem?_map] at hx hc
          by_cases hi : 5 * i < l.length
          · rw [chunksF_get _ _ i (Nat.le_refl _) hi] at hc
            rw [List.getElem?_range (by omega)] at hx
            simp only [Option.map_some, Option.some.injEq] at hx hc
            subst hx; subst hc
            obtain ⟨s1, s2⟩ := hsub (by omega)
            simp only [CRepT]
            refine ⟨_, _, rfl, ?_, rfl⟩
            have hlen2 : ((l.drop (5 * i)).take 5).length = min 5 (l.length - 5 * i) := by simp
            rw [← hlen2]
            simp only [CRep]
            refine .inr ⟨trivial, b, o + 5 * i, _, 1, .mk rfl, Nat.le_refl _, fun c hc => hone c (List.mem_of_mem_drop (List.mem_of_mem_take hc)), by rw [hlen2]; omega, ?_⟩
            have e1 : (l.drop (5 * i)).take 5 = (l.take (min (5 * i + 5) l.length)).drop (5 * i) := by
              rw [List.take_drop]
              congr 1
              by_cases q : 5 * i + 5 ≤ l.length
              · rw [Nat.min_eq_left q]
              · rw [Nat.min_eq_right (by omega), List.take_of_length_le (by omega), List.take_of_length_le (Nat.le_refl _)]
            rw [e1]
            have := s2.part (lo := 5 * i) (hi := min (5 * i + 5) l.length) (es := 1) hone (by omega) (by omega)
            simpa using this
          · rw [List.getElem?_eq_none (by simp; omega)] at hx
            cases hx
    · cases hi
end Go.Proofs
