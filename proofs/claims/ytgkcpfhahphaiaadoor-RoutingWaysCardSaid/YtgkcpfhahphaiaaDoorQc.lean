/- Both programs' ways between two cities. Conditions: none. -/
import Derived.Test.YtgkcpfhahphaiaaDoorQb
import Derived.Test.YtgkcpfhahphaiaaDoorQd
set_option linter.unusedVariables false
namespace Go.Proofs
open Go.Am
variable (lb : Bool)
theorem upTo_succ (L : List Lk) (to : Bs) (m : Nat) (w : List Bs) : upTo L to (m + 1) [w] = upTo L to m [w] ++ extB L to (m + 1) w := by
  unfold upTo
  rw [List.range_succ, List.flatMap_append]
  simp
theorem upTo_mono (L : List Lk) (to : Bs) (w : List Bs) (j : Nat) : ∀ r, (upTo L to j [w]).length ≤ (upTo L to (j + r) [w]).length
  | 0 => Nat.le_refl _
  | r + 1 => by
    have := upTo_mono L to w j r
    rw [show j + (r + 1) = j + r + 1 from rfl, upTo_succ]
    simp
    omega
theorem ways_loop (num miles : Int) (an : Bool) (L : List Lk) (a b : Bs) (m : Nat) (hm : m ≤ 6) (n : Nat) (h : ∀ s ∈ List.range 7, s + 1 ≤ 7 → WK1 lb an L b s [a] n) :
    ∀ r j, j + r = m → (upTo L b j [[a]]).length ≤ 1024 → ∀ k, r < k →
      routing_Ways_L1 lb n k num an (lcv L) miles a b (m : Int) (j : Int) (upTo L b j [[a]]).isEmpty (wcv (upTo L b j [[a]])) = some (waysV L a b m) := by
  intro r
  induction r with
  | zero =>
    intro j hj hU k hk
    obtain ⟨k, rfl⟩ : ∃ m, k = m + 1 := ⟨k - 1, by omega⟩
    obtain rfl : j = m := by omega
    rw [routing_Ways_L1_succ]
    refine stF (decF (by omega)) ?_
    rw [routing_Ways_J3_eq]
    unfold waysV
    rw [if_pos hU]
  | succ r ih =>
    intro j hj hU k hk
    obtain ⟨k, rfl⟩ : ∃ m, k = m + 1 := ⟨k - 1, by omega⟩
    rw [routing_Ways_L1_succ]
    refine stT (decT (by omega)) ?_
    rw [show IntKind.wrap .i64 ((j : Int) + 1) = ((j + 1 : Nat) : Int) by rw [wrap64 (by omega) (by omega)]; rfl]
    refine Eq.trans (h (j + 1) (by simp; omega) (by omega) (routing_Ways_c2 lb n num an (lcv L) miles a b (m : Int) (j : Int) (upTo L b j [[a]]).isEmpty (wcv (upTo L b j [[a]])) k) num an (lcv L) miles (upTo L b j [[a]]) hU) ?_
    rw [routing_Ways_c2_eq, show IntKind.wrap .i64 ((j : Int) + 1) = ((j + 1 : Nat) : Int) by rw [wrap64 (by omega) (by omega)]; rfl]
    have q := walk_ext L b (j + 1) [a] (upTo L b j [[a]]) hU
    rw [← upTo_succ] at q
    by_cases e : (upTo L b (j + 1) [[a]]).length ≤ 1024
    · rw [if_pos e] at q
      rw [q]
      exact ih (j + 1) (by omega) e k (by omega)
    · rw [if_neg e] at q
      rw [q]
      refine stT rfl ?_
      have := upTo_mono L b [a] (j + 1) r
      rw [show j + 1 + r = m by omega] at this
      unfold waysV
      rw [if_neg (by omega)]
theorem routing_Ways_ret (num miles : Int) (an : Bool) (L : List Lk) (hL : L.length ≤ 1000) (a b : Bs) (m : Int) : Ret lb F_routing_Ways [rcv num an L miles, .str a, .str b, .int .i64 m] (waysR L a b m) := by
  refine .top rfl (.eq (fun n => by rw [routing_Ways_eq]) ?_)
  unfold waysR
  by_cases h1 : a = b
  · exact .all fun n => stT (by simp [h1]) (by rw [if_pos (Or.inl h1)])
  by_cases h2 : m < 1
  · exact .all fun n => stF (by simp [h1]) (stT (decT h2) (by rw [if_pos (Or.inr (Or.inl h2))]))
  by_cases h3 : m > 6
  · exact .all fun n => stF (by simp [h1]) (stF (decF h2) (stT (decT h3) (by rw [if_pos (Or.inr (Or.inr h3))])))
  rw [if_neg (fun e => e.elim h1 (fun e => e.elim h2 h3))]
  by_cases h4 : L = []
  · subst h4
    exact .all fun n => stF (by simp [h1]) (stF (decF h2) (stF (decF h3) (stT rfl rfl)))
  have hlp := List.length_pos_iff.2 h4
  rw [if_neg h4]
  obtain ⟨j, rfl⟩ : ∃ j : Nat, m = (j : Int) := ⟨m.toNat, by omega⟩
  have hw : Evt fun n => ∀ s ∈ List.range 7, s + 1 ≤ 7 → WK1 lb an L b s [a] n := Evt.fin _ fun s _ => by
    by_cases hs : s + 1 ≤ 7
    · exact (walk_d1 lb an L hL b s hs [a] (by simp) (by simp)).mono fun n h _ => h
    · exact .all fun n h => absurd h hs
  refine Evt.imp2 hw (Evt.ge 7) fun n hn hn2 => stF (by simp [h1]) (stF (decF h2) (stF (decF h3) (stF (beqF (by rw [lcv_len]; omega)) ?_)))
  exact ways_loop lb num miles an L a b j (by omega) n hn j 0 (by omega) (by simp [upTo]) n (by omega)
/-! the document's -/
theorem pow_le {j : Nat} (h : j ≤ 6) : 14 ^ j ≤ 7529536 := Nat.le_trans (Nat.pow_le_pow_right (by decide) h) (by decide)
theorem longerB_len {L : List Lk} (hL : L.length ≤ 14) : ∀ P : Ws, (longerB L P).length ≤ 14 * P.length
  | [] => by simp [longerB]
  | w :: P => by
    have := longerB_len hL P
    have := kidsB_len w L
    rw [show longerB L (w :: P) = kidsB w L ++ longerB L P from rfl]
    simp
    omega
theorem longerB_mem {L : List Lk} {P : Ws} {v : List Bs} (h : v ∈ longerB L P) : ∃ w ∈ P, v.length = w.length + 1 := by
  obtain ⟨w, hw, hv⟩ := List.mem_flatMap.1 h
  exact ⟨w, hw, kidsB_mem hv⟩
theorem rways_loop (num miles : Int) (an : Bool) (L : List Lk) (hL : L.length ≤ 14) (a b : Bs) (m : Nat) (hm : m ≤ 6) : ∀ r j, j + r = m → ∀ O P : Ws, P.length ≤ 14 ^ j → O.length ≤ 10000000 * j → (∀ w ∈ P, w.length = j + 1) → Evt fun n => ∀ k, r < k →
      r22_Ways_L1 lb n k num an (lcv L) miles a b (m : Int) O.isEmpty (wcv O) P.isEmpty (wcv P) (j : Int) = some (if (refB L b r O P).length ≤ 1024 then .tup [.list (refB L b r O P).isEmpty (wcv (refB L b r O P)), .int .i64 0] else .tup [.list true [], .int .i64 4]) := by
  intro r
  induction r with
  | zero =>
    intro j hj O P hP hO hw
    refine .all fun n k hk => ?_
    obtain ⟨k, rfl⟩ : ∃ m, k = m + 1 := ⟨k - 1, by omega⟩
    obtain rfl : j = m := by omega
    rw [r22_Ways_L1_succ]
    refine stF (decF (by omega)) ?_
    rw [r22_Ways_J5_eq, show refB L b 0 O P = O from rfl]
    by_cases e : O.length ≤ 1024
    · rw [if_pos e]
      exact stF (decF (by rw [wcv_len]; omega)) rfl
    · rw [if_neg e]
      exact stT (decT (by rw [wcv_len]; omega)) rfl
  | succ r ih =>
    intro j hj O P hP hO hw
    have hp := pow_le (j := j) (by omega)
    have hp1 := pow_le (j := j + 1) (by omega)
    have hq := longerB_len hL P
    have hq1 : (longerB L P).length ≤ 14 ^ (j + 1) := by rw [Nat.pow_succ]; omega
    have hlen : ∀ v ∈ longerB L P, v.length = j + 2 := fun v hv => by
      obtain ⟨w, h1, h2⟩ := longerB_mem hv
      rw [h2, hw w h1]
    have hf1 := List.length_filter_le (fun w => decide (lastB w = b)) (longerB L P)
    have hf2 := List.length_filter_le (fun w => decide (lastB w ≠ b)) (longerB L P)
    have i1 := ih (j + 1) (by omega) (O ++ (longerB L P).filter fun w => decide (lastB w = b)) ((longerB L P).filter fun w => decide (lastB w ≠ b)) (by omega) (by rw [List.length_append]; omega) (fun w h => hlen w (List.mem_filter.1 h).1)
    have i2 := longer_ret lb num miles an L hL P.isEmpty P (by omega) (fun w h => ⟨by have := hw w h; intro e; rw [e] at this; simp at this, by have := hw w h; omega⟩)
    refine Evt.imp2 (Evt.and i1 i2) (Evt.ge ((longerB L P).length + 1)) fun n ⟨h1, h2⟩ h3 k hk => ?_
    obtain ⟨k, rfl⟩ : ∃ m, k = m + 1 := ⟨k - 1, by omega⟩
    rw [r22_Ways_L1_succ]
    refine stT (decT (by omega)) (stO _ h2 ?_)
    have h4 := split_loop lb num miles an L a b (m : Int) (j : Int) P.isEmpty (wcv P) (longerB L P).isEmpty (longerB L P) (by omega) (fun w h => ⟨by have := hlen w h; intro e; rw [e] at this; simp at this, by have := hlen w h; omega⟩) k n (longerB L P) [] rfl n (by omega) O [] (by omega) (by simp; omega)
    refine Eq.trans h4 ?_
    rw [show IntKind.wrap .i64 ((j : Int) + 1) = ((j + 1 : Nat) : Int) by rw [wrap64 (by omega) (by omega)]; rfl, List.nil_append]
    exact h1 k (by omega)
theorem r22_Ways_ret (num miles : Int) (an : Bool) (L : List Lk) (hL : L.length ≤ 14) (a b : Bs) (m : Int) : Ret lb F_r22_Ways [rcv num an L miles, .str a, .str b, .int .i64 m] (waysR L a b m) := by
  refine .top rfl (.eq (fun n => by rw [r22_Ways_eq]) ?_)
  unfold waysR
  by_cases h1 : a = b
  · exact .all fun n => stT (by simp [h1]) (by rw [if_pos (Or.inl h1)])
  by_cases h2 : m < 1
  · exact .all fun n => stF (by simp [h1]) (stT (decT h2) (by rw [if_pos (Or.inr (Or.inl h2))]))
  by_cases h3 : m > 6
  · exact .all fun n => stF (by simp [h1]) (stF (decF h2) (stT (decT h3) (by rw [if_pos (Or.inr (Or.inr h3))])))
  rw [if_neg (fun e => e.elim h1 (fun e => e.elim h2 h3))]
  by_cases h4 : L = []
  · subst h4
    exact .all fun n => stF (by simp [h1]) (stF (decF h2) (stF (decF h3) (stT rfl rfl)))
  have hlp := List.length_pos_iff.2 h4
  rw [if_neg h4]
  obtain ⟨j, rfl⟩ : ∃ j : Nat, m = (j : Int) := ⟨m.toNat, by omega⟩
  refine Evt.imp2 (rways_loop lb num miles an L hL a b j (by omega) j 0 (by omega) [] [[a]] (by simp) (by simp) (by simp)) (Evt.ge 8) fun n hn hn2 => stF (by simp [h1]) (stF (decF h2) (stF (decF h3) (stF (beqF (by rw [lcv_len]; omega)) ?_)))
  refine Eq.trans (hn n (by omega)) ?_
  rw [ref_upTo L b j [] [[a]] (by simp [lastB, h1]), List.nil_append]
  rfl
end Go.Proofs
