/- Chapter 20 on plain data: the error of a part, by the reference; Check, by both. Conditions: as each says. -/
import Derived.Test.YtmandbflbfkagaaGreatDoorCd
set_option linter.unusedVariables false
set_option linter.unusedSimpArgs false
namespace Go.Proofs
open Go.Am
variable (lb : Nat)
theorem r20_list_ret (k : Int) : Ret lb F_r20_list [.int .i64 k] (.bool (isl k)) := by
  refine .top rfl (.eq (fun n => by rw [r20_list_eq]) (.all fun n => ?_))
  unfold isl
  cases k == 2 <;> cases k == 3 <;> rfl
theorem r20_codes_ret (k : Int) : Ret lb F_r20_codes [.int .i64 k] (.bool (isc k)) := by
  refine .top rfl (.eq (fun n => by rw [r20_codes_eq]) (.all fun n => ?_))
  unfold isc
  cases k == 11 <;> cases k == 13 <;> rfl
theorem r20_period_ret (k : Int) : Ret lb F_r20_period [.int .i64 k] (.bool (isp k)) := by
  refine .top rfl (.eq (fun n => by rw [r20_period_eq]) (.all fun n => ?_))
  unfold isp
  cases k == 5 <;> rfl
theorem r20_numbers_ret (k : Int) : Ret lb F_r20_numbers [.int .i64 k] (.int .i64 (nums k)) := by
  refine .top rfl (.eq (fun n => by rw [r20_numbers_eq]) (.all fun n => ?_))
  unfold nums
  by_cases h1 : k = 8
  · rw [if_pos (.inl h1)]; exact stT (beqT h1) rfl
  by_cases h2 : k = 12
  · rw [if_pos (.inr h2)]; exact stF (beqF h1) (stT (beqT h2) rfl)
  rw [if_neg (fun e => e.elim h1 h2)]
  by_cases h3 : k = 7
  · rw [if_pos (.inl h3)]; exact stF (beqF h1) (stF (beqF h2) (stT (beqT h3) rfl))
  by_cases h4 : k = 9
  · rw [if_pos (.inr (.inl h4))]; exact stF (beqF h1) (stF (beqF h2) (stF (beqF h3) (stT (beqT h4) rfl)))
  by_cases h5 : k = 10
  · rw [if_pos (.inr (.inr h5))]; exact stF (beqF h1) (stF (beqF h2) (stF (beqF h3) (stF (beqF h4) (stT (beqT h5) rfl))))
  rw [if_neg (fun e => e.elim h3 (fun e => e.elim h4 h5))]
  exact stF (beqF h1) (stF (beqF h2) (stF (beqF h3) (stF (beqF h4) (stF (beqF h5) rfl))))
theorem ext_step {x y r : Bool} {N1 N2 : Option CV} (h1 : N1 = some (.bool r)) (h2 : N2 = some (.bool r)) : (bif !x then (bif y then some (.bool true) else N1) else N2) = some (.bool ((!x && y) || r)) := by
  rw [h1, h2]; cases x <;> cases y <;> rfl
theorem ext_step2 {x y r : Bool} {N1 N2 : Option CV} (h1 : N1 = some (.bool r)) (h2 : N2 = some (.bool r)) : (bif x then (bif y then some (.bool true) else N1) else N2) = some (.bool ((x && y) || r)) := by
  rw [h1, h2]; cases x <;> cases y <;> rfl
theorem ext_last {x y : Bool} : (bif x then some (CV.bool y) else some (CV.bool false)) = some (.bool (x && y)) := by cases x <;> rfl
theorem r20_extra_ret (c : Cd) : Ret lb F_r20_extra [cdv c] (.bool (extraB c)) := by
  refine .top rfl (.eq (fun n => by rw [r20_extra_eq]) ?_)
  refine Evt.imp2 (Evt.and (r20_list_ret lb c.k) (r20_codes_ret lb c.k)) (Evt.and (r20_period_ret lb c.k) (r20_numbers_ret lb c.k)) fun n ⟨a1, a2⟩ ⟨a3, a4⟩ => ?_
  unfold extraB extraF perN
  have hl : (c.l.length : Int) = ((c.l.map ccv).length : Int) := by rw [List.length_map]
  rw [hl, ← scv_len c.t]
  refine stO _ a1 (stO _ rfl (ext_step ?_ ?_))
  all_goals refine stO _ a2 (stO _ rfl (ext_step ?_ ?_))
  all_goals refine stO _ a3 (stO _ rfl (ext_step ?_ ?_))
  all_goals refine stO _ a4 (stO _ (asI_i ..) (ext_step2 ?_ ?_))
  all_goals exact stO _ a4 (stO _ (asI_i ..) ext_last)
theorem dec2 {p q : Prop} [Decidable p] [Decidable q] [Decidable (p ∨ q)] : (bif decide p then some (CV.bool true) else some (.bool (decide q))) = some (.bool (decide (p ∨ q))) := by
  by_cases hp : p <;> by_cases hq : q <;> simp [hp, hq]
theorem dec3 {p q r : Prop} [Decidable p] [Decidable q] [Decidable r] [Decidable (p ∨ q ∨ r)] : (bif decide p then some (CV.bool true) else bif decide q then some (CV.bool true) else some (.bool (decide r))) = some (.bool (decide (p ∨ q ∨ r))) := by
  by_cases hp : p <;> by_cases hq : q <;> by_cases hr : r <;> simp [hp, hq, hr]
theorem dec4 {p q r s : Prop} [Decidable p] [Decidable q] [Decidable r] [Decidable s] [Decidable (p ∨ q ∨ r ∨ s)] : (bif decide p then some (CV.bool true) else bif decide q then some (CV.bool true) else bif decide r then some (CV.bool true) else some (.bool (decide s))) = some (.bool (decide (p ∨ q ∨ r ∨ s))) := by
  by_cases hp : p <;> by_cases hq : q <;> by_cases hr : r <;> by_cases hs : s <;> simp [hp, hq, hr, hs]
theorem r20_wrong_ret (c : Cd) : Ret lb F_r20_wrong [cdv c] (.bool (wrongB c)) := by
  refine .top rfl (.eq (fun n => by rw [r20_wrong_eq]) (.all fun n => ?_))
  unfold wrongB
  have hlen : ((((c.l.map ccv).length : Nat) : Int) == 0) = decide (c.l.length = 0) := by
    rw [List.length_map]
    refine Bool.eq_iff_iff.2 ?_
    rw [beq_iff_eq, decide_eq_true_iff]
    omega
  have hlen1 : ((((c.l.map ccv).length : Nat) : Int) != 1) = decide (c.l.length ≠ 1) := by
    rw [List.length_map]
    refine Bool.eq_iff_iff.2 ?_
    rw [bne_iff_ne, decide_eq_true_iff]
    omega
  by_cases h2 : c.k = 2
  · rw [if_pos (.inl h2)]
    refine stT (beqT h2) ?_
    rw [r20_wrong_J1_eq, beqT h2]
    exact stT rfl (by rw [hlen])
  refine stF (beqF h2) ?_
  rw [r20_wrong_J1_eq]
  by_cases h3 : c.k = 3
  · rw [if_pos (.inr h3)]
    exact stT (beqT h3) (by rw [hlen])
  rw [if_neg (fun e => e.elim h2 h3)]
  refine stF (beqF h3) ?_
  by_cases h4 : c.k = 4
  · rw [if_pos h4]
    exact stT (beqT h4) (by rw [hlen1])
  rw [if_neg h4]
  refine stF (beqF h4) ?_
  by_cases h7 : c.k = 7
  · rw [if_pos h7]
    exact stT (beqT h7) dec2
  rw [if_neg h7]
  refine stF (beqF h7) ?_
  by_cases h8 : c.k = 8
  · rw [if_pos h8]
    exact stT (beqT h8) dec4
  rw [if_neg h8]
  refine stF (beqF h8) ?_
  by_cases h9 : c.k = 9
  · rw [if_pos (.inl h9)]
    refine stT (beqT h9) ?_
    rw [r20_wrong_J2_eq]
    exact stT (beqT h9) dec2
  refine stF (beqF h9) ?_
  rw [r20_wrong_J2_eq]
  by_cases h10 : c.k = 10
  · rw [if_pos (.inr h10)]
    exact stT (beqT h10) dec2
  rw [if_neg (fun e => e.elim h9 h10)]
  refine stF (beqF h10) ?_
  by_cases h12 : c.k = 12
  · rw [if_pos h12]
    exact stT (beqT h12) dec3
  rw [if_neg h12]
  exact stF (beqF h12) rfl
theorem r20_code_ret (k : Int) (s : Bs) (hs : s.length ≤ 281474976710656) : Ret lb F_r20_code [.int .i64 k, .str s] (.bool (codeK k s)) := by
  refine .top rfl (.eq (fun n => by rw [r20_code_eq]) ?_)
  unfold codeK
  by_cases h1 : k = 11
  · rw [if_pos h1]
    exact (r01_Carrier_ret lb s hs).mono fun n a => stT (beqT h1) (stO _ a rfl)
  rw [if_neg h1]
  by_cases h2 : k = 13
  · rw [if_pos h2]
    exact (r01_Airport_ret lb s hs).mono fun n a => stF (beqF h1) (stT (beqT h2) (stO _ a rfl))
  rw [if_neg h2]
  exact (r01_Code_ret lb s 3 3 hs).mono fun n a => stF (beqF h1) (stF (beqF h2) (stO _ a rfl))
theorem r20_part_ret (c : Cd) (hf : Fits c) : Ret lb F_r20_part [cdv c] (.int .i64 (partE c)) := by
  refine .top rfl (.eq (fun n => by rw [r20_part_eq]) ?_)
  obtain ⟨f1, f2⟩ := fits_tlen hf
  unfold partE
  by_cases h1 : c.k < 1
  · rw [if_pos (.inl h1)]
    exact .all fun n => stT (decT h1) rfl
  by_cases h2 : c.k > 14
  · rw [if_pos (.inr h2)]
    exact .all fun n => stF (decF h1) (stT (decT h2) rfl)
  rw [if_neg (fun e => e.elim h1 h2)]
  have e1 := r20_extra_ret lb c
  cases hx : extraB c with
  | true =>
    rw [hx] at e1
    rw [if_pos rfl]
    exact e1.mono fun n a => stF (decF h1) (stF (decF h2) (stO _ a (stO _ rfl (stT rfl rfl))))
  | false =>
    rw [hx] at e1
    simp only [Bool.false_eq_true, if_false]
    have e2 := r20_wrong_ret lb c
    cases hw : wrongB c with
    | true =>
      rw [hw] at e2
      rw [if_pos rfl]
      exact Evt.imp2 e1 e2 fun n a b => stF (decF h1) (stF (decF h2) (stO _ a (stO _ rfl (stF rfl (stO _ b (stO _ rfl (stT rfl rfl)))))))
    | false =>
      rw [hw] at e2
      simp only [Bool.false_eq_true, if_false]
      have e3 := r20_period_ret lb c.k
      cases hp : isp c.k with
      | true =>
        rw [hp] at e3
        rw [if_pos rfl]
        exact Evt.imp2 (Evt.and e1 e2) (Evt.and e3 (r04_Check_ret lb c.fr c.to c.days)) fun n ⟨a, b⟩ ⟨d, e⟩ => stF (decF h1) (stF (decF h2) (stO _ a (stO _ rfl (stF rfl (stO _ b (stO _ rfl (stF rfl (stO _ d (stO _ rfl (stT rfl (stO _ e rfl)))))))))))
      | false =>
        rw [hp] at e3
        simp only [Bool.false_eq_true, if_false]
        have e4 := r20_codes_ret lb c.k
        have e5 : Evt fun n => ∀ s ∈ c.t, C lb n F_r20_code [.int .i64 c.k, .str s] = some (.bool (codeK c.k s)) := Evt.fin _ fun s h => r20_code_ret lb c.k s (f2 s h)
        have e6 : Evt fun n => ∀ q ∈ (List.range (c.t.length + 1)).map (fun i => c.t.take i), ∀ s ∈ c.t, C lb n F_r20_has [.list c.tn (scv q), .str s] = some (.bool (decide (s ∈ q))) := Evt.fin _ fun q hq => Evt.fin _ fun s h => r20_has_ret lb c.tn q s (by
          obtain ⟨i, _, rfl⟩ := List.mem_map.1 hq
          simp; omega)
        have hh : ∀ n, (∀ s ∈ c.t, C lb n F_r20_code [.int .i64 c.k, .str s] = some (.bool (codeK c.k s))) → (∀ q ∈ (List.range (c.t.length + 1)).map (fun i => c.t.take i), ∀ s ∈ c.t, C lb n F_r20_has [.list c.tn (scv q), .str s] = some (.bool (decide (s ∈ q)))) →
            ∀ t p, p ++ t = c.t → ∀ k, t.length < k → r20_part_L1 lb n k c.k c.ln (c.l.map ccv) c.a c.b c.fr c.to c.days c.tn (scv c.t) (p.length : Int) = some (.int .i64 (codesF (codeK c.k) p t)) := by
          intro n a1 a2 t
          induction t with
          | nil =>
            intro p hp k hk
            obtain ⟨k, rfl⟩ : ∃ j, k = j + 1 := ⟨k - 1, by simp at hk; omega⟩
            have hpl : p = c.t := by simpa using hp
            rw [r20_part_L1_succ]
            refine stF (decF (by rw [hpl, scv_len]; omega)) ?_
            rw [r20_part_J2_eq]
            rfl
          | cons x t ih =>
            intro p hp k hk
            obtain ⟨k, rfl⟩ : ∃ j, k = j + 1 := ⟨k - 1, by simp at hk; omega⟩
            have hpl : c.t.length = p.length + (t.length + 1) := by rw [← hp]; simp
            have hx : x ∈ c.t := by rw [← hp]; simp
            have hq : p ∈ (List.range (c.t.length + 1)).map (fun i => c.t.take i) := List.mem_map.2 ⟨p.length, List.mem_range.2 (by omega), by rw [← hp]; simp⟩
            have hsc : ((scv c.t).take ((p.length : Int)).toNat).drop 0 = scv p := by rw [← scv_len p]; exact take_pre (t := scv (x :: t)) (by rw [← scv_app, hp])
            have hat := txt_at (t := c.t) (i := p.length) (s := x) (by rw [← hp]; simp)
            rw [r20_part_L1_succ]
            refine stT (decT (by rw [scv_len]; omega)) (stO _ hat (stC rfl (stO _ rfl (stO _ (a1 x hx) (stO _ rfl ?_)))))
            unfold codesF
            cases hb : codeK c.k x with
            | false => exact stT rfl rfl
            | true =>
              refine stF rfl (stC (all_one_scv c.t) (stC (decT (by rw [scv_len]; omega)) (stO _ hat (stC rfl (stO _ rfl ?_)))))
              rw [hsc]
              refine stO _ (a2 p hq x hx) (stO _ rfl ?_)
              rw [if_neg (by simp)]
              by_cases hm : x ∈ p
              · rw [if_pos hm]
                exact stT (decT hm) rfl
              · rw [if_neg hm]
                refine stF (decF hm) ?_
                rw [wrap64 (by omega) (by omega), show (p.length : Int) + 1 = ((p ++ [x]).length : Int) by simp]
                exact ih (p ++ [x]) (by rw [← hp]; simp) k (by simp at hk; omega)
        have hnil : c.t = [] → codesF (codeK c.k) [] c.t = 0 := fun h => by rw [h]; rfl
        cases hc : isc c.k with
        | true =>
          rw [hc] at e4
          rw [if_pos rfl]
          unfold codesE
          by_cases h0 : c.t = []
          · rw [if_pos h0]
            exact Evt.imp2 (Evt.and e1 e2) (Evt.and e3 e4) fun n ⟨a, b⟩ ⟨d, e⟩ => stF (decF h1) (stF (decF h2) (stO _ a (stO _ rfl (stF rfl (stO _ b (stO _ rfl (stF rfl (stO _ d (stO _ rfl (stF rfl (stO _ e (stO _ rfl (stT rfl (stT (beqT (by rw [h0]; rfl)) rfl))))))))))))))
          · rw [if_neg h0]
            have hpos := List.length_pos_iff.2 h0
            exact Evt.imp2 (Evt.and (Evt.and e1 e2) (Evt.and e5 e6)) (Evt.and (Evt.and e3 e4) (Evt.ge (c.t.length + 1))) fun n ⟨⟨a, b⟩, f, g⟩ ⟨⟨d, e⟩, hn⟩ => stF (decF h1) (stF (decF h2) (stO _ a (stO _ rfl (stF rfl (stO _ b (stO _ rfl (stF rfl (stO _ d (stO _ rfl (stF rfl (stO _ e (stO _ rfl (stT rfl (stF (beqF (by rw [scv_len]; omega)) (hh n f g c.t [] rfl n (by omega))))))))))))))))
        | false =>
          rw [hc] at e4
          simp only [Bool.false_eq_true, if_false]
          have ht : c.t = [] := by
            have h3 : (!isc c.k && decide ((c.t.length : Int) > 0)) = false := by
              unfold extraB extraF at hx
              simp only [Bool.or_eq_false_iff] at hx
              exact hx.2.1
            rw [hc] at h3
            have : ¬ (c.t.length : Int) > 0 := by simpa using h3
            exact List.length_eq_zero_iff.1 (by omega)
          exact Evt.imp2 (Evt.and (Evt.and e1 e2) (Evt.and e5 e6)) (Evt.and (Evt.and e3 e4) (Evt.ge (c.t.length + 1))) fun n ⟨⟨a, b⟩, f, g⟩ ⟨⟨d, e⟩, hn⟩ => stF (decF h1) (stF (decF h2) (stO _ a (stO _ rfl (stF rfl (stO _ b (stO _ rfl (stF rfl (stO _ d (stO _ rfl (stF rfl (stO _ e (stO _ rfl (stF rfl ((hh n f g c.t [] rfl n (by omega)).trans (by rw [hnil ht])))))))))))))))
end Go.Proofs
