/- Chapter 7 on plain data: periods and their days, legs of a flight on a day, their order. Conditions: as each says. -/
import Derived.Test.YtifjdkimbamdkaaDoorTKa
set_option linter.unusedSimpArgs false
namespace Go.Proofs
open Go.Am
variable (lb : Bool)
/-! periods -/
theorem period_Check_ret (fr to days : Int) : Ret lb F_period_Check [.agg [.int .i64 fr, .int .i64 to, .int .i64 days]] (.int .i64 (perE fr to days)) := by
  refine .top rfl (.eq (fun n => by rw [period_Check_eq]) (.of ?_))
  unfold perE
  by_cases h1 : fr < 0
  · rw [decT h1, cond_true, if_pos (.inl h1)]
  by_cases h2 : to < fr
  · rw [decF h1, cond_false, decT h2, cond_true, if_pos (.inr (.inl h2))]
  by_cases h3 : to ≥ 36525
  · rw [decF h1, cond_false, decF h2, cond_false, decT h3, cond_true, if_pos (.inr (.inr h3))]
  rw [decF h1, cond_false, decF h2, cond_false, decF h3, cond_false, if_neg (by omega), wrap64 (by omega) (by omega)]
  by_cases h4 : to - fr ≥ 800
  · rw [decT h4, cond_true, if_pos h4]
  rw [decF h4, cond_false, if_neg h4]
  by_cases h5 : days < 1
  · rw [decT h5, cond_true, if_pos (.inl h5)]
  by_cases h6 : days > 127
  · rw [decF h5, cond_false, decT h6, cond_true, if_pos (.inr h6)]
  rw [decF h5, cond_false, decF h6, cond_false, if_neg (by omega)]
theorem r04_Check_ret (fr to days : Int) : Ret lb F_r04_Check [.agg [.int .i64 fr, .int .i64 to, .int .i64 days]] (.int .i64 (perE fr to days)) := by
  refine .top rfl (.eq (fun n => by rw [r04_Check_eq]) (.of ?_))
  unfold perE
  by_cases h1 : fr < 0
  · rw [decT h1, cond_true, if_pos (.inl h1)]
  by_cases h2 : fr > to
  · rw [decF h1, cond_false, decT h2, cond_true, if_pos (.inr (.inl h2))]
  by_cases h3 : to ≥ 36525
  · rw [decF h1, cond_false, decF h2, cond_false, decT h3, cond_true, if_pos (.inr (.inr h3))]
  rw [decF h1, cond_false, decF h2, cond_false, decF h3, cond_false, if_neg (by omega), wrap64 (by omega) (by omega)]
  by_cases h4 : to - fr ≥ 800
  · rw [decT h4, cond_true, if_pos h4]
  rw [decF h4, cond_false, if_neg h4]
  by_cases h5 : days < 1
  · rw [decT h5, cond_true, if_pos (.inl h5)]
  by_cases h6 : days > 127
  · rw [decF h5, cond_false, decT h6, cond_true, if_pos (.inr h6)]
  rw [decF h5, cond_false, decF h6, cond_false, if_neg (by omega)]
theorem perE_0 {fr to days : Int} (h : perE fr to days = 0) : 0 ≤ fr ∧ fr ≤ to ∧ to < 36525 ∧ to - fr < 800 ∧ 1 ≤ days ∧ days ≤ 127 := by
  unfold perE at h
  split at h
  · omega
  · split at h
    · omega
    · split at h <;> omega
theorem wdayF_wrap (day : Int) : Int.tmod (W64 (Int.tmod day 7 + 12)) 7 = wdayF day := by
  have h1 := Int.tmod_lt_of_pos day (show (0 : Int) < 7 by decide)
  have h2 := Int.lt_tmod_of_pos day (show (0 : Int) < 7 by decide)
  unfold wdayF
  rw [show W64 (Int.tmod day 7 + 12) = Int.tmod day 7 + 12 from wrap64 (by omega) (by omega)]
theorem wdayF_range {day : Int} (h : 0 ≤ day) : 0 ≤ wdayF day ∧ wdayF day ≤ 6 := by
  have h1 : 0 ≤ Int.tmod day 7 := Int.tmod_nonneg _ h
  unfold wdayF
  have h3 : 0 ≤ Int.tmod (Int.tmod day 7 + 12) 7 := Int.tmod_nonneg _ (by omega)
  have h4 : Int.tmod (Int.tmod day 7 + 12) 7 < 7 := Int.tmod_lt_of_pos _ (by omega)
  omega
theorem calendar_Weekday_ret (day : Int) : Ret lb F_calendar_Weekday [.int .i64 day] (.int .i64 (wdayF day)) :=
  .top rfl (.eq (fun n => by rw [calendar_Weekday_eq, wdayF_wrap]) (.of rfl))
theorem r03_Weekday_ret (day : Int) : Ret lb F_r03_Weekday [.int .i64 day] (.int .i64 (wdayF day)) :=
  .top rfl (.eq (fun n => by rw [r03_Weekday_eq, wdayF_wrap]) (.of rfl))
theorem on_bits : ∀ (d : Fin 128) (w : Fin 7), (W64 ((BitVec.ofInt 64 (Int.fdiv ((d.val : Nat) : Int) (2 ^ (min ((w.val : Nat) : Int).toNat 64))) &&& BitVec.ofInt 64 1).toNat) == 1) = (((d.val : Nat) : Int) / 2 ^ ((w.val : Nat) : Int).toNat % 2 == 1) := by decide +kernel
theorem on_div : ∀ (d : Fin 128) (w : Fin 7), (Int.tmod (W64 (Int.tdiv ((d.val : Nat) : Int) (2 ^ ((w.val : Nat) : Int).toNat))) 2 == 1) = (((d.val : Nat) : Int) / 2 ^ ((w.val : Nat) : Int).toNat % 2 == 1) := by decide +kernel
theorem period_on_ret (days day : Int) (hd : 0 ≤ days ∧ days ≤ 127) (h : 0 ≤ day) : Ret lb F_period_on [.int .i64 days, .int .i64 day] (.bool (onF days day)) := by
  refine .top rfl (.eq (fun n => by rw [period_on_eq]) ?_)
  refine .call (calendar_Weekday_ret lb day) ?_
  obtain ⟨h1, h2⟩ := wdayF_range h
  simp only [optO_s, asI_i, asB_b, asS_s, asL_l, asA_a, asT_t, get0, get1, get2, get3, chkO_t, cond_true, cond_false, List.length_cons, List.length_nil, Nat.zero_add, Nat.reduceAdd, Nat.reduceBEq, beq_self_eq_true, isCell_str, isCell_int]
  rw [decT h1, chkO_t]
  obtain ⟨d, rfl⟩ := Int.eq_ofNat_of_zero_le hd.1
  obtain ⟨w, hw⟩ := Int.eq_ofNat_of_zero_le h1
  unfold onF
  rw [hw]
  have := on_bits ⟨d, by omega⟩ ⟨w, by omega⟩
  exact .of (by rw [← this])
theorem r04_bit_ret (day : Int) (h : 0 ≤ day) : Ret lb F_r04_bit [.int .i64 day] (.int .i64 (2 ^ (wdayF day).toNat)) := by
  refine .top rfl (.eq (fun n => by rw [r04_bit_eq]) ?_)
  obtain ⟨h1, h2⟩ := wdayF_range h
  have key : ∀ (m j : Nat), j + m = (wdayF day).toNat → Evt fun n => ∀ k, m < k → r04_bit_L1 lb n k day (2 ^ j) (j : Int) = some (.int .i64 (2 ^ (wdayF day).toNat)) := by
    intro m
    induction m with
    | zero =>
      intro j hj
      refine (r03_Weekday_ret lb day).mono fun n hn k hk => ?_
      obtain ⟨k, rfl⟩ : ∃ m, k = m + 1 := ⟨k - 1, by omega⟩
      rw [r04_bit_L1_succ, hn]
      simp only [optO_s, asI_i, asB_b, asS_s, asL_l, asA_a, asT_t, get0, get1, get2, get3, chkO_t, cond_true, cond_false, List.length_cons, List.length_nil, Nat.zero_add, Nat.reduceAdd, Nat.reduceBEq, beq_self_eq_true, isCell_str, isCell_int]
      rw [decF (by omega), cond_false, r04_bit_J2_eq, ← hj]
      rfl
    | succ m ih =>
      intro j hj
      refine Evt.imp2 (r03_Weekday_ret lb day) (ih (j + 1) (by omega)) fun n hn hi k hk => ?_
      obtain ⟨k, rfl⟩ : ∃ m, k = m + 1 := ⟨k - 1, by omega⟩
      rw [r04_bit_L1_succ, hn]
      simp only [optO_s, asI_i, asB_b, asS_s, asL_l, asA_a, asT_t, get0, get1, get2, get3, chkO_t, cond_true, cond_false, List.length_cons, List.length_nil, Nat.zero_add, Nat.reduceAdd, Nat.reduceBEq, beq_self_eq_true, isCell_str, isCell_int]
      have hp : (2 : Int) ^ j ≤ 64 := by
        have hj6 : j ≤ 6 := by omega
        exact (show ∀ q : Fin 7, (2 : Int) ^ q.val ≤ 64 by decide) ⟨j, by omega⟩
      have hp0 : (0 : Int) < 2 ^ j := Int.pow_pos (by decide)
      rw [decT (by omega), cond_true, wrap64 (by omega) (by omega), wrap64 (by omega) (by omega)]
      have := hi k (by omega)
      rw [Int.pow_succ, Int.mul_comm] at this
      simpa using this
  have := Evt.diag (key (wdayF day).toNat 0 (by omega))
  simpa using this
theorem onF_range {days : Int} {day : Int} (hd : 0 ≤ days ∧ days ≤ 127) (h : 0 ≤ day) : (Int.tmod (W64 (Int.tdiv days (2 ^ (wdayF day).toNat))) 2 == 1) = onF days day := by
  obtain ⟨h1, h2⟩ := wdayF_range h
  obtain ⟨d, rfl⟩ := Int.eq_ofNat_of_zero_le hd.1
  obtain ⟨w, hw⟩ := Int.eq_ofNat_of_zero_le h1
  unfold onF
  rw [hw]
  exact on_div ⟨d, by omega⟩ ⟨w, by omega⟩
def hasF (fr to days day : Int) : Bool := decide (perE fr to days = 0) && (decide (fr ≤ day) && (decide (day ≤ to) && onF days day))
theorem period_Has_ret (fr to days day : Int) : Ret lb F_period_Has [.agg [.int .i64 fr, .int .i64 to, .int .i64 days], .int .i64 day] (.bool (hasF fr to days day)) := by
  refine .top rfl (.eq (fun n => by rw [period_Has_eq]) ?_)
  refine .call (period_Check_ret lb fr to days) ?_
  simp only [optO_s, asI_i, asB_b, asS_s, asL_l, asA_a, asT_t, get0, get1, get2, get3, chkO_t, cond_true, cond_false, List.length_cons, List.length_nil, Nat.zero_add, Nat.reduceAdd, Nat.reduceBEq, beq_self_eq_true, isCell_str, isCell_int]
  unfold hasF
  by_cases h0 : perE fr to days = 0
  · simp only [beqT h0, cond_true, decT h0]
    obtain ⟨a0, a1, a2, a3, a4, a5⟩ := perE_0 h0
    by_cases h1 : fr ≤ day
    · simp only [ge_iff_le, decT h1, cond_true]
      by_cases h2 : day ≤ to
      · simp only [decT h2, cond_true]
        refine .call (period_on_ret lb days day ⟨by omega, a5⟩ (by omega)) (.of ?_)
        simp
      · simp only [decF h2, cond_false]
        exact .of (by simp)
    · simp only [ge_iff_le, decF h1, cond_false]
      exact .of (by simp)
  · simp only [beqF h0, cond_false, decF h0]
    exact .of (by simp)
theorem r04_Has_ret (fr to days day : Int) : Ret lb F_r04_Has [.agg [.int .i64 fr, .int .i64 to, .int .i64 days], .int .i64 day] (.bool (hasF fr to days day)) := by
  refine .top rfl (.eq (fun n => by rw [r04_Has_eq]) ?_)
  refine .call (r04_Check_ret lb fr to days) ?_
  simp only [optO_s, asI_i, asB_b, asS_s, asL_l, asA_a, asT_t, get0, get1, get2, get3, chkO_t, cond_true, cond_false, List.length_cons, List.length_nil, Nat.zero_add, Nat.reduceAdd, Nat.reduceBEq, beq_self_eq_true, isCell_str, isCell_int]
  unfold hasF
  by_cases h0 : perE fr to days = 0
  · simp only [beqT h0, cond_true, decT h0]
    obtain ⟨a0, a1, a2, a3, a4, a5⟩ := perE_0 h0
    by_cases h1 : fr ≤ day
    · simp only [ge_iff_le, decT h1, cond_true]
      by_cases h2 : day ≤ to
      · simp only [decT h2, cond_true]
        refine .call (r04_bit_ret lb day (by omega)) ?_
        simp only [optO_s, asI_i, asB_b, asS_s, asL_l, asA_a, asT_t, get0, get1, get2, get3, chkO_t, cond_true, cond_false, List.length_cons, List.length_nil, Nat.zero_add, Nat.reduceAdd, Nat.reduceBEq, beq_self_eq_true, isCell_str, isCell_int]
        have hp : (0 : Int) < 2 ^ (wdayF day).toNat := Int.pow_pos (by decide)
        simp only [show ((2 : Int) ^ (wdayF day).toNat != 0) = true from bneT (by omega), chkO_t, onF_range ⟨(show 0 ≤ days by omega), a5⟩ (show 0 ≤ day by omega)]
        exact .of (by simp)
      · simp only [decF h2, cond_false]
        exact .of (by simp)
    · simp only [ge_iff_le, decF h1, cond_false]
      exact .of (by simp)
  · simp only [beqF h0, cond_false, decF h0]
    exact .of (by simp)
def dcv (l : List Int) : List (List CV) := l.map fun x => [CV.int .i64 x]
theorem upto_le (fr days : Int) : ∀ k, (upto fr days k).length ≤ k
  | 0 => Nat.le_refl _
  | k + 1 => by
    have := upto_le fr days k
    simp only [upto, List.length_append]
    split <;> simp <;> omega
theorem room_le {n b : Nat} (h : n ≤ 1000000) (h2 : b ≤ 1000) : room n b = true := by
  unfold room
  have : n * b ≤ 1000000 * 1000 := Nat.mul_le_mul h h2
  exact decide_eq_true (by omega)
theorem snoc_nil {α : Type} (l : List α) (x : α) (b : Bool) : (b && false) = (l ++ [x]).isEmpty := by simp
theorem r04_Days_ret (fr to days : Int) : Ret lb F_r04_Days [.agg [.int .i64 fr, .int .i64 to, .int .i64 days]] (.list (daysF fr to days).isEmpty (dcv (daysF fr to days))) := by
  refine .top rfl (.eq (fun n => by rw [r04_Days_eq]) ?_)
  by_cases h0 : perE fr to days = 0
  · obtain ⟨a0, a1, a2, a3, a4, a5⟩ := perE_0 h0
    have key : ∀ (m j : Nat), (j : Int) + m = to + 1 - fr → Evt fun n => ∀ k, m < k → r04_Days_L1 lb n k fr to days (upto fr days j).isEmpty (dcv (upto fr days j)) (fr + j) = some (.list (daysF fr to days).isEmpty (dcv (daysF fr to days))) := by
      intro m
      induction m with
      | zero =>
        intro j hj
        refine (r04_Check_ret lb fr to days).mono fun n hn k hk => ?_
        obtain ⟨k, rfl⟩ : ∃ m, k = m + 1 := ⟨k - 1, by omega⟩
        rw [r04_Days_L1_succ, hn]
        simp only [optO_s, asI_i, asB_b, asS_s, asL_l, asA_a, asT_t, get0, get1, get2, get3, chkO_t, cond_true, cond_false, List.length_cons, List.length_nil, Nat.zero_add, Nat.reduceAdd, Nat.reduceBEq, beq_self_eq_true, isCell_str, isCell_int]
        rw [beqT h0, cond_true, decF (by omega), cond_false, r04_Days_J2_eq]
        unfold daysF
        rw [if_pos h0, show (to + 1 - fr).toNat = j by omega]
      | succ m ih =>
        intro j hj
        refine Evt.imp2 (Evt.imp2 (r04_Check_ret lb fr to days) (r04_Has_ret lb fr to days (fr + j)) fun n h1 h2 => And.intro h1 h2) (ih (j + 1) (by omega)) fun n hn hi k hk => ?_
        obtain ⟨k, rfl⟩ : ∃ m, k = m + 1 := ⟨k - 1, by omega⟩
        rw [r04_Days_L1_succ, hn.1, hn.2]
        simp only [optO_s, asI_i, asB_b, asS_s, asL_l, asA_a, asT_t, get0, get1, get2, get3, chkO_t, cond_true, cond_false, List.length_cons, List.length_nil, Nat.zero_add, Nat.reduceAdd, Nat.reduceBEq, beq_self_eq_true, isCell_str, isCell_int]
        rw [beqT h0, cond_true, decT (by omega), cond_true]
        have hi := hi k (by omega)
        have hh : hasF fr to days (fr + j) = onF days (fr + j) := by
          unfold hasF
          rw [decT h0, decT (by omega), decT (by omega)]
          rfl
        have hw : IntKind.wrap .i64 (fr + j + 1) = fr + ((j + 1 : Nat) : Int) := by rw [wrap64 (by omega) (by omega)]; omega
        have hul := upto_le fr days j
        rw [hh]
        cases ho : onF days (fr + j) with
        | true =>
          rw [cond_true, room_le (by simp [dcv]; omega) (by omega), chkO_t, hw]
          simp only [upto, ho, if_true] at hi
          rw [snoc_nil (upto fr days j) (fr + j)]
          simpa [dcv] using hi
        | false =>
          rw [cond_false, hw]
          simp only [upto, ho, Bool.false_eq_true, if_false, List.append_nil] at hi
          exact hi
    have := Evt.diag (key (to + 1 - fr).toNat 0 (by omega))
    refine this.mono fun n hn => ?_
    simpa [upto, dcv] using hn
  · refine (r04_Check_ret lb fr to days).and (Evt.ge 1) |>.mono fun n hn => ?_
    obtain ⟨hn, h1⟩ := hn
    obtain ⟨k, hk⟩ : ∃ m, n = m + 1 := ⟨n - 1, by omega⟩
    have : ∀ k', k' = n → r04_Days_L1 lb n k' fr to days true [] fr = some (.list (daysF fr to days).isEmpty (dcv (daysF fr to days))) := by
      intro k' e
      rw [show k' = k + 1 by omega, r04_Days_L1_succ, hn]
      simp only [optO_s, asI_i, asB_b, asS_s, asL_l, asA_a, asT_t, get0, get1, get2, get3, chkO_t, cond_true, cond_false, List.length_cons, List.length_nil, Nat.zero_add, Nat.reduceAdd, Nat.reduceBEq, beq_self_eq_true, isCell_str, isCell_int]
      rw [beqF h0, cond_false, r04_Days_J2_eq]
      unfold daysF
      rw [if_neg h0]
      rfl
    exact this n rfl
end Go.Proofs
