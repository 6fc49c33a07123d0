/- Chapter 7 on plain data: airports, zones, periods; finding an airport, the minute UTC of a local minute, the days of a period. Conditions: as each says. -/
import Derived.Test.YtmefepdgnkhagaaGreatDoorGa
import Derived.Test.YtmefepdgnkhagaaGreatDoorRy
set_option linter.unusedSimpArgs false
namespace Go.Proofs
open Go.Am
variable (lb : Nat)
theorem get4 {α : Type} (a b c d e : α) (l : List α) : (a :: b :: c :: d :: e :: l)[4]? = some e := rfl
theorem get5 {α : Type} (a b c d e f : α) (l : List α) : (a :: b :: c :: d :: e :: f :: l)[5]? = some f := rfl
theorem get6 {α : Type} (a b c d e f g : α) (l : List α) : (a :: b :: c :: d :: e :: f :: g :: l)[6]? = some g := rfl
theorem get7 {α : Type} (a b c d e f g h : α) (l : List α) : (a :: b :: c :: d :: e :: f :: g :: h :: l)[7]? = some h := rfl
abbrev W64 (x : Int) : Int := IntKind.wrap .i64 x
theorem W64_range (x : Int) : -9223372036854775808 ≤ W64 x ∧ W64 x ≤ 9223372036854775807 := by
  unfold W64 IntKind.wrap
  simp only [IntKind.bits, IntKind.signed]
  simp
  omega
abbrev Sh := Int × Int
def shcv (s : Sh) : List CV := [.int .i64 s.1, .int .i64 s.2]
structure Ap where
  code : Bs
  city : Bs
  ctry : Bs
  off : Int
  sn : Bool
  sh : List Sh
def apcv (a : Ap) : List CV := [.str a.code, .str a.city, .str a.ctry, .int .i64 a.off, .list a.sn (a.sh.map shcv)]
def ap0 : Ap := ⟨[], [], [], 0, true, []⟩
structure Di where
  fro : Bs
  to : Bs
  mi : Int
def dicv (d : Di) : List CV := [.str d.fro, .str d.to, .int .i64 d.mi]
structure Pc where
  an : Bool
  aps : List Ap
  dn : Bool
  dis : List Di
abbrev pcv (p : Pc) : CV := .agg [.list p.an (p.aps.map apcv), .list p.dn (p.dis.map dicv)]
structure Lg where
  fro : Bs
  to : Bs
  dep : Int
  arr : Int
  eq : Bs
def lgcv (l : Lg) : List CV := [.str l.fro, .str l.to, .int .i64 l.dep, .int .i64 l.arr, .str l.eq]
structure Fl where
  car : Bs
  num : Int
  fr : Int
  to : Int
  days : Int
  ln : Bool
  legs : List Lg
abbrev flcv (f : Fl) : CV := .agg [.str f.car, .int .i64 f.num, .int .i64 f.fr, .int .i64 f.to, .int .i64 f.days, .list f.ln (f.legs.map lgcv)]

/-! airports -/
def findA (s : Bs) : List Ap → Option Ap
  | [] => none
  | a :: t => if a.code = s then some a else findA s t
def findR (s : Bs) (l : List Ap) : CV := .tup [.agg (apcv ((findA s l).getD ap0)), .bool (findA s l).isSome]
/-! zones -/
theorem shiftsOf_cv : ∀ l : List Sh, shiftsOf (l.map shcv) = some l
  | [] => rfl
  | s :: l => by
    show (shiftsOf (l.map shcv)).map ((s.1, s.2) :: ·) = _
    rw [shiftsOf_cv l]; rfl
def maxI (a b : Int) : Int := if a > b then a else b
def utcG (loc : Int) : Int → List Sh → Int
  | u, [] => u
  | u, s :: r => if u < s.1 then u else utcG loc (maxI (W64 (loc - s.2)) s.1) r
def utcF (off : Int) (sh : List Sh) (loc : Int) : Int := utcG loc (W64 (loc - off)) sh
def utcP (loc : Int) : Int → List (Int × Int × Int) → Int
  | u, [] => u
  | _, s :: r => if maxI (W64 (loc - s.2.2)) s.1 < s.2.1 then maxI (W64 (loc - s.2.2)) s.1 else utcP loc (maxI (W64 (loc - s.2.2)) s.1) r
theorem utcP_spans (loc : Int) : ∀ (l : List Sh) (u fr o : Int), utcP loc u (spansF fr o l) = utcG loc (maxI (W64 (loc - o)) fr) l
  | [], u, fr, o => by
    simp only [spansF, utcP, utcG]
    split <;> rfl
  | (a, o') :: r, u, fr, o => by
    simp only [spansF, utcP, utcG]
    split
    · rfl
    · exact utcP_spans loc r _ a o'
theorem maxI_min (loc o : Int) : maxI (W64 (loc - o)) (-9223372036854775808) = W64 (loc - o) := by
  have := (W64_range (loc - o)).1
  unfold maxI
  split <;> omega
theorem spans_len : ∀ (l : List Sh) (fr o : Int), (spansF fr o l).length = l.length + 1
  | [], _, _ => rfl
  | (a, o') :: r, fr, o => by simp [spansF, spans_len r]
/-! times of a leg -/
def apOf (p : Pc) (s : Bs) : Ap := (findA s p.aps).getD ap0
def atF (p : Pc) (s : Bs) (day m : Int) : Int := utcF (apOf p s).off (apOf p s).sh (W64 (W64 (day * 1440) + m))
/-- no zone has too many shifts -/
def Shifts (p : Pc) : Prop := p.aps.length ≤ 281474976710656 ∧ ∀ a ∈ p.aps, a.sh.length ≤ 256
theorem findA_mem {s : Bs} {a : Ap} : ∀ {l : List Ap}, findA s l = some a → a ∈ l ∧ a.code = s
  | x :: l, h => by
    unfold findA at h
    split at h
    · rename_i e
      cases h
      exact ⟨List.mem_cons_self .., e⟩
    · exact ⟨List.mem_cons_of_mem _ (findA_mem h).1, (findA_mem h).2⟩
theorem apOf_sh {p : Pc} (hp : Shifts p) (s : Bs) : (apOf p s).sh.length ≤ 256 := by
  unfold apOf
  cases h : findA s p.aps with
  | none => simp [ap0]
  | some a => exact hp.2 a (findA_mem h).1
end Go.Proofs
/- Chapter 7 on plain data: periods and their days, legs of a flight on a day, their order. Conditions: as each says. -/
set_option linter.unusedSimpArgs false
namespace Go.Proofs
open Go.Am
variable (lb : Nat)
/-! periods -/
theorem period_Check_ret (fr to days : Int) : Ret lb F_period_Check [.agg [.int .i64 fr, .int .i64 to, .int .i64 days]] (.int .i64 (perE fr to days)) := by
  refine .top rfl (.eq (fun n => by rw [period_Check_eq]) (.of ?_))
  unfold perE
  by_cases h1 : fr < 0
  · rw [decT h1, cond_true, if_pos (.inl h1)]
  by_cases h2 : to < fr
  · rw [decF h1, cond_false, decT h2, cond_true, if_pos (.inr (.inl h2))]
  by_cases h3 : to ≥ 36525
  · rw [decF h1, cond_false, decF h2, cond_false, decT h3, cond_true, if_pos (.inr (.inr h3))]
  rw [decF h1, cond_false, decF h2, cond_false, decF h3, cond_false, if_neg (by omega), wrap64 (by omega) (by omega)]
  by_cases h4 : to - fr ≥ 800
  · rw [decT h4, cond_true, if_pos h4]
  rw [decF h4, cond_false, if_neg h4]
  by_cases h5 : days < 1
  · rw [decT h5, cond_true, if_pos (.inl h5)]
  by_cases h6 : days > 127
  · rw [decF h5, cond_false, decT h6, cond_true, if_pos (.inr h6)]
  rw [decF h5, cond_false, decF h6, cond_false, if_neg (by omega)]
theorem r04_Check_ret (fr to days : Int) : Ret lb F_r04_Check [.agg [.int .i64 fr, .int .i64 to, .int .i64 days]] (.int .i64 (perE fr to days)) := by
  refine .top rfl (.eq (fun n => by rw [r04_Check_eq]) (.of ?_))
  unfold perE
  by_cases h1 : fr < 0
  · rw [decT h1, cond_true, if_pos (.inl h1)]
  by_cases h2 : fr > to
  · rw [decF h1, cond_false, decT h2, cond_true, if_pos (.inr (.inl h2))]
  by_cases h3 : to ≥ 36525
  · rw [decF h1, cond_false, decF h2, cond_false, decT h3, cond_true, if_pos (.inr (.inr h3))]
  rw [decF h1, cond_false, decF h2, cond_false, decF h3, cond_false, if_neg (by omega), wrap64 (by omega) (by omega)]
  by_cases h4 : to - fr ≥ 800
  · rw [decT h4, cond_true, if_pos h4]
  rw [decF h4, cond_false, if_neg h4]
  by_cases h5 : days < 1
  · rw [decT h5, cond_true, if_pos (.inl h5)]
  by_cases h6 : days > 127
  · rw [decF h5, cond_false, decT h6, cond_true, if_pos (.inr h6)]
  rw [decF h5, cond_false, decF h6, cond_false, if_neg (by omega)]
theorem perE_0 {fr to days : Int} (h : perE fr to days = 0) : 0 ≤ fr ∧ fr ≤ to ∧ to < 36525 ∧ to - fr < 800 ∧ 1 ≤ days ∧ days ≤ 127 := by
  unfold perE at h
  split at h
  · omega
  · split at h
    · omega
    · split at h <;> omega
theorem wdayF_wrap (day : Int) : Int.tmod (W64 (Int.tmod day 7 + 12)) 7 = wdayF day := by
  have h1 := Int.tmod_lt_of_pos day (show (0 : Int) < 7 by decide)
  have h2 := Int.lt_tmod_of_pos day (show (0 : Int) < 7 by decide)
  unfold wdayF
  rw [show W64 (Int.tmod day 7 + 12) = Int.tmod day 7 + 12 from wrap64 (by omega) (by omega)]
theorem wdayF_range {day : Int} (h : 0 ≤ day) : 0 ≤ wdayF day ∧ wdayF day ≤ 6 := by
  have h1 : 0 ≤ Int.tmod day 7 := Int.tmod_nonneg _ h
  unfold wdayF
  have h3 : 0 ≤ Int.tmod (Int.tmod day 7 + 12) 7 := Int.tmod_nonneg _ (by omega)
  have h4 : Int.tmod (Int.tmod day 7 + 12) 7 < 7 := Int.tmod_lt_of_pos _ (by omega)
  omega
theorem calendar_Weekday_ret (day : Int) : Ret lb F_calendar_Weekday [.int .i64 day] (.int .i64 (wdayF day)) :=
  .top rfl (.eq (fun n => by rw [calendar_Weekday_eq, wdayF_wrap]) (.of rfl))
theorem r03_Weekday_ret (day : Int) : Ret lb F_r03_Weekday [.int .i64 day] (.int .i64 (wdayF day)) :=
  .top rfl (.eq (fun n => by rw [r03_Weekday_eq, wdayF_wrap]) (.of rfl))
theorem on_bits : ∀ (d : Fin 128) (w : Fin 7), (W64 ((BitVec.ofInt 64 (Int.fdiv ((d.val : Nat) : Int) (2 ^ (min ((w.val : Nat) : Int).toNat 64))) &&& BitVec.ofInt 64 1).toNat) == 1) = (((d.val : Nat) : Int) / 2 ^ ((w.val : Nat) : Int).toNat % 2 == 1) := by decide +kernel
theorem on_div : ∀ (d : Fin 128) (w : Fin 7), (Int.tmod (W64 (Int.tdiv ((d.val : Nat) : Int) (2 ^ ((w.val : Nat) : Int).toNat))) 2 == 1) = (((d.val : Nat) : Int) / 2 ^ ((w.val : Nat) : Int).toNat % 2 == 1) := by decide +kernel
theorem period_on_ret (days day : Int) (hd : 0 ≤ days ∧ days ≤ 127) (h : 0 ≤ day) : Ret lb F_period_on [.int .i64 days, .int .i64 day] (.bool (onF days day)) := by
  refine .top rfl (.eq (fun n => by rw [period_on_eq]) ?_)
  refine .call (calendar_Weekday_ret lb day) ?_
  obtain ⟨h1, h2⟩ := wdayF_range h
  simp only [optO_s, asI_i, asB_b, asS_s, asL_l, asA_a, asT_t, get0, get1, get2, get3, chkO_t, cond_true, cond_false, List.length_cons, List.length_nil, Nat.zero_add, Nat.reduceAdd, Nat.reduceBEq, beq_self_eq_true, isCell_str, isCell_int]
  rw [decT h1, chkO_t]
  obtain ⟨d, rfl⟩ := Int.eq_ofNat_of_zero_le hd.1
  obtain ⟨w, hw⟩ := Int.eq_ofNat_of_zero_le h1
  unfold onF
  rw [hw]
  have := on_bits ⟨d, by omega⟩ ⟨w, by omega⟩
  exact .of (by rw [← this])
theorem r04_bit_ret (day : Int) (h : 0 ≤ day) : Ret lb F_r04_bit [.int .i64 day] (.int .i64 (2 ^ (wdayF day).toNat)) := by
  refine .top rfl (.eq (fun n => by rw [r04_bit_eq]) ?_)
  obtain ⟨h1, h2⟩ := wdayF_range h
  have key : ∀ (m j : Nat), j + m = (wdayF day).toNat → Evt fun n => ∀ k, m < k → r04_bit_L1 lb n k day (2 ^ j) (j : Int) = some (.int .i64 (2 ^ (wdayF day).toNat)) := by
    intro m
    induction m with
    | zero =>
      intro j hj
      refine (r03_Weekday_ret lb day).mono fun n hn k hk => ?_
      obtain ⟨k, rfl⟩ : ∃ m, k = m + 1 := ⟨k - 1, by omega⟩
      rw [r04_bit_L1_succ, hn]
      simp only [optO_s, asI_i, asB_b, asS_s, asL_l, asA_a, asT_t, get0, get1, get2, get3, chkO_t, cond_true, cond_false, List.length_cons, List.length_nil, Nat.zero_add, Nat.reduceAdd, Nat.reduceBEq, beq_self_eq_true, isCell_str, isCell_int]
      rw [decF (by omega), cond_false, r04_bit_J2_eq, ← hj]
      rfl
    | succ m ih =>
      intro j hj
      refine Evt.imp2 (r03_Weekday_ret lb day) (ih (j + 1) (by omega)) fun n hn hi k hk => ?_
      obtain ⟨k, rfl⟩ : ∃ m, k = m + 1 := ⟨k - 1, by omega⟩
      rw [r04_bit_L1_succ, hn]
      simp only [optO_s, asI_i, asB_b, asS_s, asL_l, asA_a, asT_t, get0, get1, get2, get3, chkO_t, cond_true, cond_false, List.length_cons, List.length_nil, Nat.zero_add, Nat.reduceAdd, Nat.reduceBEq, beq_self_eq_true, isCell_str, isCell_int]
      have hp : (2 : Int) ^ j ≤ 64 := by
        have hj6 : j ≤ 6 := by omega
        exact (show ∀ q : Fin 7, (2 : Int) ^ q.val ≤ 64 by decide) ⟨j, by omega⟩
      have hp0 : (0 : Int) < 2 ^ j := Int.pow_pos (by decide)
      rw [decT (by omega), cond_true, wrap64 (by omega) (by omega), wrap64 (by omega) (by omega)]
      have := hi k (by omega)
      rw [Int.pow_succ, Int.mul_comm] at this
      simpa using this
  have := Evt.diag (key (wdayF day).toNat 0 (by omega))
  simpa using this
theorem onF_range {days : Int} {day : Int} (hd : 0 ≤ days ∧ days ≤ 127) (h : 0 ≤ day) : (Int.tmod (W64 (Int.tdiv days (2 ^ (wdayF day).toNat))) 2 == 1) = onF days day := by
  obtain ⟨h1, h2⟩ := wdayF_range h
  obtain ⟨d, rfl⟩ := Int.eq_ofNat_of_zero_le hd.1
  obtain ⟨w, hw⟩ := Int.eq_ofNat_of_zero_le h1
  unfold onF
  rw [hw]
  exact on_div ⟨d, by omega⟩ ⟨w, by omega⟩
def hasF (fr to days day : Int) : Bool := decide (perE fr to days = 0) && (decide (fr ≤ day) && (decide (day ≤ to) && onF days day))
theorem period_Has_ret (fr to days day : Int) : Ret lb F_period_Has [.agg [.int .i64 fr, .int .i64 to, .int .i64 days], .int .i64 day] (.bool (hasF fr to days day)) := by
  refine .top rfl (.eq (fun n => by rw [period_Has_eq]) ?_)
  refine .call (period_Check_ret lb fr to days) ?_
  simp only [optO_s, asI_i, asB_b, asS_s, asL_l, asA_a, asT_t, get0, get1, get2, get3, chkO_t, cond_true, cond_false, List.length_cons, List.length_nil, Nat.zero_add, Nat.reduceAdd, Nat.reduceBEq, beq_self_eq_true, isCell_str, isCell_int]
  unfold hasF
  by_cases h0 : perE fr to days = 0
  · simp only [beqT h0, cond_true, decT h0]
    obtain ⟨a0, a1, a2, a3, a4, a5⟩ := perE_0 h0
    by_cases h1 : fr ≤ day
    · simp only [ge_iff_le, decT h1, cond_true]
      by_cases h2 : day ≤ to
      · simp only [decT h2, cond_true]
        refine .call (period_on_ret lb days day ⟨by omega, a5⟩ (by omega)) (.of ?_)
        simp
      · simp only [decF h2, cond_false]
        exact .of (by simp)
    · simp only [ge_iff_le, decF h1, cond_false]
      exact .of (by simp)
  · simp only [beqF h0, cond_false, decF h0]
    exact .of (by simp)
theorem r04_Has_ret (fr to days day : Int) : Ret lb F_r04_Has [.agg [.int .i64 fr, .int .i64 to, .int .i64 days], .int .i64 day] (.bool (hasF fr to days day)) := by
  refine .top rfl (.eq (fun n => by rw [r04_Has_eq]) ?_)
  refine .call (r04_Check_ret lb fr to days) ?_
  simp only [optO_s, asI_i, asB_b, asS_s, asL_l, asA_a, asT_t, get0, get1, get2, get3, chkO_t, cond_true, cond_false, List.length_cons, List.length_nil, Nat.zero_add, Nat.reduceAdd, Nat.reduceBEq, beq_self_eq_true, isCell_str, isCell_int]
  unfold hasF
  by_cases h0 : perE fr to days = 0
  · simp only [beqT h0, cond_true, decT h0]
    obtain ⟨a0, a1, a2, a3, a4, a5⟩ := perE_0 h0
    by_cases h1 : fr ≤ day
    · simp only [ge_iff_le, decT h1, cond_true]
      by_cases h2 : day ≤ to
      · simp only [decT h2, cond_true]
        refine .call (r04_bit_ret lb day (by omega)) ?_
        simp only [optO_s, asI_i, asB_b, asS_s, asL_l, asA_a, asT_t, get0, get1, get2, get3, chkO_t, cond_true, cond_false, List.length_cons, List.length_nil, Nat.zero_add, Nat.reduceAdd, Nat.reduceBEq, beq_self_eq_true, isCell_str, isCell_int]
        have hp : (0 : Int) < 2 ^ (wdayF day).toNat := Int.pow_pos (by decide)
        simp only [show ((2 : Int) ^ (wdayF day).toNat != 0) = true from bneT (by omega), chkO_t, onF_range ⟨(show 0 ≤ days by omega), a5⟩ (show 0 ≤ day by omega)]
        exact .of (by simp)
      · simp only [decF h2, cond_false]
        exact .of (by simp)
    · simp only [ge_iff_le, decF h1, cond_false]
      exact .of (by simp)
  · simp only [beqF h0, cond_false, decF h0]
    exact .of (by simp)
def dcv (l : List Int) : List (List CV) := l.map fun x => [CV.int .i64 x]
theorem upto_le (fr days : Int) : ∀ k, (upto fr days k).length ≤ k
  | 0 => Nat.le_refl _
  | k + 1 => by
    have := upto_le fr days k
    simp only [upto, List.length_append]
    split <;> simp <;> omega
theorem room_le {n b : Nat} (h : n ≤ 1000000) (h2 : b ≤ 1000) : room n b = true := by
  unfold room
  have : n * b ≤ 1000000 * 1000 := Nat.mul_le_mul h h2
  exact decide_eq_true (by omega)
theorem snoc_nil {α : Type} (l : List α) (x : α) (b : Bool) : (b && false) = (l ++ [x]).isEmpty := by simp
end Go.Proofs
