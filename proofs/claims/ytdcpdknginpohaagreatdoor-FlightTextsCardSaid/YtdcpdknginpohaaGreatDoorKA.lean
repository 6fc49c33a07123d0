/- Chapter 7 on plain data: airports, zones, periods; finding an airport, the minute UTC of a local minute, the days of a period. Conditions: as each says. -/
import Derived.Test.YtdcpdknginpohaaGreatDoorGa
import Derived.Test.YtdcpdknginpohaaGreatDoorRy
import Derived.Test.YtdcpdknginpohaaGreatDoorGb
import Derived.Test.YtdcpdknginpohaaGreatDoorRn
import Derived.Test.YtdcpdknginpohaaGreatDoorGc
set_option linter.unusedSimpArgs false
namespace Go.Proofs
open Go.Am
variable (lb : Nat)
abbrev Sh := Int × Int
def shcv (s : Sh) : List CV := [.int .i64 s.1, .int .i64 s.2]
structure Ap where
  code : Bs
  city : Bs
  ctry : Bs
  off : Int
  sn : Bool
  sh : List Sh
def apcv (a : Ap) : List CV := [.str a.code, .str a.city, .str a.ctry, .int .i64 a.off, .list a.sn (a.sh.map shcv)]
structure Di where
  fro : Bs
  to : Bs
  mi : Int
def dicv (d : Di) : List CV := [.str d.fro, .str d.to, .int .i64 d.mi]
structure Pc where
  an : Bool
  aps : List Ap
  dn : Bool
  dis : List Di
abbrev pcv (p : Pc) : CV := .agg [.list p.an (p.aps.map apcv), .list p.dn (p.dis.map dicv)]
structure Lg where
  fro : Bs
  to : Bs
  dep : Int
  arr : Int
  eq : Bs
def lgcv (l : Lg) : List CV := [.str l.fro, .str l.to, .int .i64 l.dep, .int .i64 l.arr, .str l.eq]
structure Fl where
  car : Bs
  num : Int
  fr : Int
  to : Int
  days : Int
  ln : Bool
  legs : List Lg
abbrev flcv (f : Fl) : CV := .agg [.str f.car, .int .i64 f.num, .int .i64 f.fr, .int .i64 f.to, .int .i64 f.days, .list f.ln (f.legs.map lgcv)]

/-! airports -/
/-! zones -/
/-! times of a leg -/
end Go.Proofs
/- Chapter 7 on plain data: periods and their days, legs of a flight on a day, their order. Conditions: as each says. -/
set_option linter.unusedSimpArgs false
namespace Go.Proofs
open Go.Am
variable (lb : Nat)
/-! periods -/
theorem period_Check_ret (fr to days : Int) : Ret lb F_period_Check [.agg [.int .i64 fr, .int .i64 to, .int .i64 days]] (.int .i64 (perE fr to days)) := by
  refine .top rfl (.eq (fun n => by rw [period_Check_eq]) (.of ?_))
  unfold perE
  by_cases h1 : fr < 0
  · rw [decT h1, cond_true, if_pos (.inl h1)]
  by_cases h2 : to < fr
  · rw [decF h1, cond_false, decT h2, cond_true, if_pos (.inr (.inl h2))]
  by_cases h3 : to ≥ 36525
  · rw [decF h1, cond_false, decF h2, cond_false, decT h3, cond_true, if_pos (.inr (.inr h3))]
  rw [decF h1, cond_false, decF h2, cond_false, decF h3, cond_false, if_neg (by omega), wrap64 (by omega) (by omega)]
  by_cases h4 : to - fr ≥ 800
  · rw [decT h4, cond_true, if_pos h4]
  rw [decF h4, cond_false, if_neg h4]
  by_cases h5 : days < 1
  · rw [decT h5, cond_true, if_pos (.inl h5)]
  by_cases h6 : days > 127
  · rw [decF h5, cond_false, decT h6, cond_true, if_pos (.inr h6)]
  rw [decF h5, cond_false, decF h6, cond_false, if_neg (by omega)]
theorem r04_Check_ret (fr to days : Int) : Ret lb F_r04_Check [.agg [.int .i64 fr, .int .i64 to, .int .i64 days]] (.int .i64 (perE fr to days)) := by
  refine .top rfl (.eq (fun n => by rw [r04_Check_eq]) (.of ?_))
  unfold perE
  by_cases h1 : fr < 0
  · rw [decT h1, cond_true, if_pos (.inl h1)]
  by_cases h2 : fr > to
  · rw [decF h1, cond_false, decT h2, cond_true, if_pos (.inr (.inl h2))]
  by_cases h3 : to ≥ 36525
  · rw [decF h1, cond_false, decF h2, cond_false, decT h3, cond_true, if_pos (.inr (.inr h3))]
  rw [decF h1, cond_false, decF h2, cond_false, decF h3, cond_false, if_neg (by omega), wrap64 (by omega) (by omega)]
  by_cases h4 : to - fr ≥ 800
  · rw [decT h4, cond_true, if_pos h4]
  rw [decF h4, cond_false, if_neg h4]
  by_cases h5 : days < 1
  · rw [decT h5, cond_true, if_pos (.inl h5)]
  by_cases h6 : days > 127
  · rw [decF h5, cond_false, decT h6, cond_true, if_pos (.inr h6)]
  rw [decF h5, cond_false, decF h6, cond_false, if_neg (by omega)]
theorem room_le {n b : Nat} (h : n ≤ 1000000) (h2 : b ≤ 1000) : room n b = true := by
  unfold room
  have : n * b ≤ 1000000 * 1000 := Nat.mul_le_mul h h2
  exact decide_eq_true (by omega)
theorem snoc_nil {α : Type} (l : List α) (x : α) (b : Bool) : (b && false) = (l ++ [x]).isEmpty := by simp
end Go.Proofs
/- Chapter 7 on plain data: the legs of a flight on a day, and whether they are in order. Conditions: as each says. -/
set_option linter.unusedSimpArgs false
namespace Go.Proofs
open Go.Am
variable (lb : Nat)
theorem flight_minutes_ret (m : Int) : Ret lb F_flight_minutes [.int .i64 m] (.bool (decide (-1440 ≤ m ∧ m < 5760))) := by
  refine .top rfl (.eq (fun n => by rw [flight_minutes_eq]) (.of ?_))
  by_cases h : m ≥ -1440
  · rw [decT h, cond_true]
    congr 2
    exact decide_eq_decide.2 ⟨fun q => ⟨h, q⟩, fun q => q.2⟩
  · rw [decF h, cond_false, decF (by omega)]
theorem r07_out_ret (m : Int) : Ret lb F_r07_out [.int .i64 m] (.bool (!decide (-1440 ≤ m ∧ m < 5760))) := by
  refine .top rfl (.eq (fun n => by rw [r07_out_eq]) (.of ?_))
  by_cases h : m < -1440
  · rw [decT h, cond_true, decF (by omega)]
    rfl
  · rw [decF h, cond_false, ← decide_not]
    congr 2
    exact decide_eq_decide.2 (by omega)
end Go.Proofs
/- Chapter 3 on plain data: the date of a day, by the program and by its reference. Conditions: as each says. -/
set_option linter.unusedSimpArgs false
namespace Go.Proofs
open Go.Am
variable (lb : Nat)
def lenF (y m : Int) : Int := if m = 2 then (if Int.tmod y 4 = 0 then 29 else 28) else if m = 4 ∨ m = 6 ∨ m = 9 ∨ m = 11 then 30 else 31
theorem lengthF_eq (y : Int) (m : Int) (h : 1 ≤ m ∧ m ≤ 12) : lengthF y m = some (lenF y m) := by
  have : m = 1 ∨ m = 2 ∨ m = 3 ∨ m = 4 ∨ m = 5 ∨ m = 6 ∨ m = 7 ∨ m = 8 ∨ m = 9 ∨ m = 10 ∨ m = 11 ∨ m = 12 := by omega
  rcases this with rfl | rfl | rfl | rfl | rfl | rfl | rfl | rfl | rfl | rfl | rfl | rfl
  · rfl
  · unfold lengthF lenF
    by_cases h : Int.tmod y 4 = 0
    · rw [if_pos ⟨rfl, h⟩, if_pos rfl, if_pos h]
    · rw [if_neg (fun q => h q.2), if_pos (by decide), if_pos rfl, if_neg h]
      rfl
  all_goals rfl
theorem calendar_length_ret (y m : Int) (h : 1 ≤ m ∧ m ≤ 12) : Ret lb F_calendar_length [.int .i64 y, .int .i64 m] (.int .i64 (lenF y m)) :=
  .lib (s := lib_length) rfl (by
    show (lengthF y m).map (CV.int .i64 ·) = _
    rw [lengthF_eq y m h]; rfl)
theorem r03_Length_ret (y m : Int) : Ret lb F_r03_Length [.int .i64 y, .int .i64 m] (.int .i64 (lenF y m)) := by
  refine .top rfl (.eq (fun n => by rw [r03_Length_eq]) (.all fun n => ?_))
  unfold lenF
  simp only [r03_Length_J1_eq]
  by_cases h4 : m = 4
  · subst h4; rfl
  by_cases h6 : m = 6
  · subst h6; rfl
  by_cases h9 : m = 9
  · subst h9; rfl
  rw [beqF h4, cond_false, beqF h6, cond_false, beqF h9, cond_false]
  by_cases h11 : m = 11
  · subst h11; rfl
  rw [beqF h11, cond_false]
  by_cases h2 : m = 2
  · subst h2
    rw [beqT rfl, cond_true, if_pos rfl]
    by_cases h : Int.tmod y 4 = 0
    · rw [beqT h, cond_true, if_pos h]
    · rw [beqF h, cond_false, if_neg h]
  · rw [beqF h2, cond_false, if_neg h2, if_neg (by omega)]
theorem lenF_range (y m : Int) : 28 ≤ lenF y m ∧ lenF y m ≤ 31 := by
  unfold lenF
  split
  · split <;> omega
  · split <;> omega
def firstF (y : Int) : Int := 365 * (y - 2000) + Int.tdiv (y - 2000 + 3) 4
theorem calendar_first_ret (y : Int) (h : 2000 ≤ y ∧ y ≤ 2200) : Ret lb F_calendar_first [.int .i64 y] (.int .i64 (firstF y)) := by
  refine .top rfl (.eq (fun n => by rw [calendar_first_eq]) (.of ?_))
  have h1 : 0 ≤ Int.tdiv (y - 2000 + 3) 4 := Int.tdiv_nonneg (by omega) (by omega)
  have h2 : Int.tdiv (y - 2000 + 3) 4 ≤ 300 := by rw [Int.tdiv_eq_ediv_of_nonneg (by omega)]; omega
  rw [wrap64 (x := y - 2000) (by omega) (by omega), wrap64 (x := 365 * (y - 2000)) (by omega) (by omega), wrap64 (x := y - 2000 + 3) (by omega) (by omega), wrap64 (x := Int.tdiv (y - 2000 + 3) 4) (by omega) (by omega), wrap64 (by omega) (by omega)]
  rfl
theorem firstF_step (y : Int) (h : 2000 ≤ y) : firstF (y + 1) = firstF y + (if Int.tmod y 4 = 0 then 366 else 365) := by
  unfold firstF
  rw [Int.tdiv_eq_ediv_of_nonneg (by omega), Int.tdiv_eq_ediv_of_nonneg (by omega), Int.tmod_eq_emod_of_nonneg (by omega)]
  split <;> omega
/-- the month and the day, or the days behind the year -/
def monthsO (y : Int) : Nat → Int → Int → (Int × Int × Int) ⊕ Int
  | 0, _, rest => .inr rest
  | k + 1, m, rest => if rest < lenF y (m + 1) then .inl (y, m + 1, rest + 1) else monthsO y k (m + 1) (rest - lenF y (m + 1))
def sumL (y : Int) : Nat → Int → Int
  | 0, _ => 0
  | k + 1, m => lenF y (m + 1) + sumL y k (m + 1)
theorem sumL_nonneg (y : Int) : ∀ (k : Nat) (m : Int), 0 ≤ sumL y k m
  | 0, _ => by simp [sumL]
  | k + 1, m => by
    have := sumL_nonneg y k (m + 1)
    have := lenF_range y (m + 1)
    simp only [sumL]
    omega
theorem sumL_year (y : Int) : sumL y 12 0 = (if Int.tmod y 4 = 0 then 366 else 365) := by
  have e1 : lenF y (0 + 1) = 31 := rfl
  have e2 : lenF y (0 + 1 + 1) = if Int.tmod y 4 = 0 then 29 else 28 := rfl
  have e3 : lenF y (0 + 1 + 1 + 1) = 31 := rfl
  have e4 : lenF y (0 + 1 + 1 + 1 + 1) = 30 := rfl
  have e5 : lenF y (0 + 1 + 1 + 1 + 1 + 1) = 31 := rfl
  have e6 : lenF y (0 + 1 + 1 + 1 + 1 + 1 + 1) = 30 := rfl
  have e7 : lenF y (0 + 1 + 1 + 1 + 1 + 1 + 1 + 1) = 31 := rfl
  have e8 : lenF y (0 + 1 + 1 + 1 + 1 + 1 + 1 + 1 + 1) = 31 := rfl
  have e9 : lenF y (0 + 1 + 1 + 1 + 1 + 1 + 1 + 1 + 1 + 1) = 30 := rfl
  have e10 : lenF y (0 + 1 + 1 + 1 + 1 + 1 + 1 + 1 + 1 + 1 + 1) = 31 := rfl
  have e11 : lenF y (0 + 1 + 1 + 1 + 1 + 1 + 1 + 1 + 1 + 1 + 1 + 1) = 30 := rfl
  have e12 : lenF y (0 + 1 + 1 + 1 + 1 + 1 + 1 + 1 + 1 + 1 + 1 + 1 + 1) = 31 := rfl
  simp only [sumL, e1, e2, e3, e4, e5, e6, e7, e8, e9, e10, e11, e12]
  split <;> omega
theorem monthsO_sum (y : Int) : ∀ (k : Nat) (m rest : Int), 0 ≤ rest → (∀ t, monthsO y k m rest = .inl t → rest < sumL y k m) ∧ (∀ r, monthsO y k m rest = .inr r → r = rest - sumL y k m ∧ 0 ≤ r)
  | 0, m, rest, h => by
    refine ⟨fun t q => (by cases q), fun r q => ?_⟩
    cases q
    exact ⟨by simp [sumL], h⟩
  | k + 1, m, rest, h => by
    have hr := lenF_range y (m + 1)
    have hn := sumL_nonneg y k (m + 1)
    by_cases c : rest < lenF y (m + 1)
    · simp only [monthsO, if_pos c, sumL]
      exact ⟨fun t q => (by omega), fun r q => (by cases q)⟩
    · simp only [monthsO, if_neg c, sumL]
      have ih := monthsO_sum y k (m + 1) (rest - lenF y (m + 1)) (by omega)
      refine ⟨fun t q => ?_, fun r q => ?_⟩
      · have := ih.1 t q; omega
      · have := ih.2 r q; omega
theorem monthsO_inr (y rest : Int) (h : rest ≥ (if Int.tmod y 4 = 0 then 366 else 365)) : monthsO y 12 0 rest = .inr (rest - (if Int.tmod y 4 = 0 then 366 else 365)) := by
  have h0 : 0 ≤ rest := by split at h <;> omega
  have hs := monthsO_sum y 12 0 rest h0
  rw [sumL_year] at hs
  cases e : monthsO y 12 0 rest with
  | inl t => have := hs.1 t e; omega
  | inr r => rw [(hs.2 r e).1]
theorem monthsO_inl (y rest : Int) (h0 : 0 ≤ rest) (h : rest < (if Int.tmod y 4 = 0 then 366 else 365)) : ∃ t, monthsO y 12 0 rest = .inl t := by
  have hs := monthsO_sum y 12 0 rest h0
  rw [sumL_year] at hs
  cases e : monthsO y 12 0 rest with
  | inl t => exact ⟨t, rfl⟩
  | inr r => have := hs.2 r e; omega
theorem monthsO_len (y : Int) : ∀ (k : Nat) (m rest : Int), 0 ≤ rest → (∀ t, monthsO y k m rest = .inl t → t.1 = y ∧ m + 1 ≤ t.2.1 ∧ t.2.1 ≤ m + k ∧ 1 ≤ t.2.2 ∧ t.2.2 ≤ lenF y t.2.1) ∧ (∀ r, monthsO y k m rest = .inr r → 0 ≤ r ∧ rest ≥ r + 28 * k)
  | 0, m, rest, h => by
    refine ⟨fun t q => (by cases q), fun r q => ?_⟩
    cases q
    exact ⟨h, by simp⟩
  | k + 1, m, rest, h => by
    have hr := lenF_range y (m + 1)
    by_cases c : rest < lenF y (m + 1)
    · simp only [monthsO, if_pos c]
      refine ⟨fun t q => ?_, fun r q => by cases q⟩
      cases q
      simp only
      refine ⟨trivial, by omega, by omega, by omega, by omega⟩
    · simp only [monthsO, if_neg c]
      have ih := monthsO_len y k (m + 1) (rest - lenF y (m + 1)) (by omega)
      refine ⟨fun t q => ?_, fun r q => ?_⟩
      · have := ih.1 t q
        refine ⟨this.1, by omega, by omega, this.2.2.2⟩
      · have := ih.2 r q
        refine ⟨this.1, by omega⟩
/-- the year of a day -/
def IsYear (D Y : Int) : Prop := 2000 ≤ Y ∧ Y ≤ 2099 ∧ firstF Y ≤ D ∧ D < firstF (Y + 1)
theorem firstF_mono {a b : Int} (ha : 2000 ≤ a) (h : a ≤ b) : firstF a ≤ firstF b := by
  unfold firstF
  rw [Int.tdiv_eq_ediv_of_nonneg (by omega), Int.tdiv_eq_ediv_of_nonneg (by omega)]
  omega
theorem isYear_one {D a b : Int} (ha : IsYear D a) (hb : IsYear D b) : a = b := by
  rcases Int.lt_trichotomy a b with h | h | h
  · have := firstF_mono (a := a + 1) (b := b) (by have := ha.1; omega) (by omega)
    have := ha.2.2.2; have := hb.2.2.1; omega
  · exact h
  · have := firstF_mono (a := b + 1) (b := a) (by have := hb.1; omega) (by omega)
    have := hb.2.2.2; have := ha.2.2.1; omega
def yearG (D : Int) : Nat → Int → Int
  | 0, y => y
  | k + 1, y => if firstF (y + 1) ≤ D then yearG D k (y + 1) else y
theorem yearG_is {D : Int} (hD : D < 36525) : ∀ (k : Nat) (y : Int), 2000 ≤ y → y + k = 2099 → firstF y ≤ D → IsYear D (yearG D k y)
  | 0, y, h0, h, h1 => by
    have : y = 2099 := by omega
    subst this
    exact ⟨by show (2000 : Int) ≤ 2099; omega, by show (2099 : Int) ≤ 2099; omega, h1, by show D < firstF 2100; rw [show firstF 2100 = 36525 by decide]; exact hD⟩
  | k + 1, y, h0, h, h1 => by
    unfold yearG
    split
    · exact yearG_is hD k (y + 1) (by omega) (by omega) (by assumption)
    · exact ⟨h0, by omega, h1, by omega⟩
def yearF (D : Int) : Int := yearG D 99 2000
theorem yearF_is {D : Int} (h0 : 0 ≤ D) (hD : D < 36525) : IsYear D (yearF D) := yearG_is hD 99 2000 (by omega) (by omega) (by rw [show firstF 2000 = 0 by decide]; exact h0)
def dateF (D : Int) : Int × Int × Int := match monthsO (yearF D) 12 0 (D - firstF (yearF D)) with
  | .inl t => t
  | .inr _ => (0, 0, 0)
theorem dateF_inl {D : Int} (h0 : 0 ≤ D) (hD : D < 36525) : monthsO (yearF D) 12 0 (D - firstF (yearF D)) = .inl (dateF D) := by
  have hy := yearF_is h0 hD
  obtain ⟨t, ht⟩ := monthsO_inl (yearF D) (D - firstF (yearF D)) (by have := hy.2.2.1; omega) (by have := hy.2.2.2; rw [firstF_step _ hy.1] at this; omega)
  unfold dateF
  rw [ht]
theorem dateF_range {D : Int} (h0 : 0 ≤ D) (hD : D < 36525) : 2000 ≤ (dateF D).1 ∧ (dateF D).1 ≤ 2099 ∧ 1 ≤ (dateF D).2.1 ∧ (dateF D).2.1 ≤ 12 ∧ 1 ≤ (dateF D).2.2 ∧ (dateF D).2.2 ≤ 31 := by
  have hy := yearF_is h0 hD
  have h := (monthsO_len (yearF D) 12 0 (D - firstF (yearF D)) (by have := hy.2.2.1; omega)).1 _ (dateF_inl h0 hD)
  have := lenF_range (yearF D) (dateF D).2.1
  obtain ⟨h1, h2, h3, h4, h5⟩ := h
  have := hy.1; have := hy.2.1
  refine ⟨by omega, by omega, by omega, by omega, by omega, by omega⟩
def tri (t : Int × Int × Int) : CV := .tup [.int .i64 t.1, .int .i64 t.2.1, .int .i64 t.2.2]

/-! the program's -/
theorem date_months (D Y : Int) (r12 : CV) (i13 : Int) : ∀ (k m : Nat) (rest : Int), m + k = 12 → 0 ≤ rest → rest ≤ 1000 → ∀ t, monthsO Y k (m : Int) rest = .inl t →
    Evt fun n => ∀ j, k < j → calendar_Date_L3 lb n j D Y r12 i13 rest (m : Int) = some (tri t)
  | 0, m, rest, h, h0, h1, t, q => by cases q
  | k + 1, m, rest, h, h0, h1, t, q => by
    have hr := lenF_range Y ((m : Int) + 1)
    have hw : IntKind.wrap .i64 ((m : Int) + 1) = (m : Int) + 1 := wrap64 (by omega) (by omega)
    have hlen := calendar_length_ret lb Y ((m : Int) + 1) ⟨by omega, by omega⟩
    by_cases c : rest < lenF Y ((m : Int) + 1)
    · simp only [monthsO, if_pos c] at q
      cases q
      refine hlen.mono fun n hn j hj => ?_
      obtain ⟨j, rfl⟩ : ∃ m, j = m + 1 := ⟨j - 1, by omega⟩
      rw [calendar_Date_L3_succ, decT (by omega), cond_true, hw, hn]
      simp only [optO_s, asI_i, asB_b, asS_s, asL_l, asA_a, asT_t, get0, get1, get2, get3, chkO_t, cond_true, cond_false, List.length_cons, List.length_nil, Nat.zero_add, Nat.reduceAdd, Nat.reduceBEq, beq_self_eq_true, isCell_str, isCell_int]
      rw [decT c, cond_true, wrap64 (x := rest + 1) (by omega) (by omega)]
      rfl
    · simp only [monthsO, if_neg c] at q
      refine Evt.imp2 hlen (date_months D Y r12 i13 k (m + 1) (rest - lenF Y ((m : Int) + 1)) (by omega) (by omega) (by omega) t (by exact_mod_cast q)) fun n hn hi j hj => ?_
      obtain ⟨j, rfl⟩ : ∃ m, j = m + 1 := ⟨j - 1, by omega⟩
      rw [calendar_Date_L3_succ, decT (by omega), cond_true, hw, hn]
      simp only [optO_s, asI_i, asB_b, asS_s, asL_l, asA_a, asT_t, get0, get1, get2, get3, chkO_t, cond_true, cond_false, List.length_cons, List.length_nil, Nat.zero_add, Nat.reduceAdd, Nat.reduceBEq, beq_self_eq_true, isCell_str, isCell_int]
      rw [decF c, cond_false, wrap64 (x := rest - lenF Y ((m : Int) + 1)) (by omega) (by omega)]
      exact_mod_cast hi j (by omega)
theorem date_years {D : Int} (h0 : 0 ≤ D) (hD : D < 36525) : ∀ (k : Nat) (y : Int), 2000 ≤ y → y + k = 2099 → firstF y ≤ D → Evt fun n => ∀ j, k < j → calendar_Date_L1 lb n j D y = some (tri (dateF D))
  | k, y, h1, h2, h3 => by
    have hf := calendar_first_ret lb (y + 1) ⟨by omega, by omega⟩
    have hw : IntKind.wrap .i64 (y + 1) = y + 1 := wrap64 (by omega) (by omega)
    by_cases c : firstF (y + 1) ≤ D
    · match k, h2 with
      | 0, h2 =>
        exfalso
        have : y = 2099 := by omega
        subst this
        rw [show firstF (2099 + 1) = 36525 by decide] at c
        omega
      | k + 1, h2 =>
        refine Evt.imp2 hf (date_years h0 hD k (y + 1) (by omega) (by omega) c) fun n hn hi j hj => ?_
        obtain ⟨j, rfl⟩ : ∃ m, j = m + 1 := ⟨j - 1, by omega⟩
        rw [calendar_Date_L1_succ, hw, hn]
        simp only [optO_s, asI_i, asB_b, asS_s, asL_l, asA_a, asT_t, get0, get1, get2, get3, chkO_t, cond_true, cond_false, List.length_cons, List.length_nil, Nat.zero_add, Nat.reduceAdd, Nat.reduceBEq, beq_self_eq_true, isCell_str, isCell_int]
        rw [decT c, cond_true]
        exact hi j (by omega)
    · have hY : IsYear D y := ⟨h1, by omega, h3, by omega⟩
      have hy : y = yearF D := isYear_one hY (yearF_is h0 hD)
      have hm := date_months lb D y (.int .i64 (firstF y)) (firstF y) 12 0 (D - firstF y) rfl (by omega) (by have := hY.2.2.2; rw [firstF_step y h1] at this; split at this <;> omega) (dateF D) (by rw [hy]; exact dateF_inl h0 hD)
      refine Evt.imp2 (Evt.imp2 hf (calendar_first_ret lb y ⟨by omega, by omega⟩) fun n a b => And.intro a b) (hm.and (Evt.ge 13)) fun n hn hi j hj => ?_
      obtain ⟨j, rfl⟩ : ∃ m, j = m + 1 := ⟨j - 1, by omega⟩
      rw [calendar_Date_L1_succ, hw, hn.1]
      simp only [optO_s, asI_i, asB_b, asS_s, asL_l, asA_a, asT_t, get0, get1, get2, get3, chkO_t, cond_true, cond_false, List.length_cons, List.length_nil, Nat.zero_add, Nat.reduceAdd, Nat.reduceBEq, beq_self_eq_true, isCell_str, isCell_int]
      rw [decF c, cond_false, calendar_Date_J2_eq, hn.2]
      simp only [optO_s, asI_i, asB_b, asS_s, asL_l, asA_a, asT_t, get0, get1, get2, get3, chkO_t, cond_true, cond_false, List.length_cons, List.length_nil, Nat.zero_add, Nat.reduceAdd, Nat.reduceBEq, beq_self_eq_true, isCell_str, isCell_int]
      rw [wrap64 (x := D - firstF y) (by omega) (by have : 0 ≤ firstF y := by unfold firstF; have := Int.tdiv_nonneg (a := y - 2000 + 3) (b := 4) (by omega) (by omega); omega
                                                    omega)]
      exact hi.1 n (by omega)
theorem calendar_Date_ret (D : Int) (h0 : 0 ≤ D) (hD : D < 36525) : Ret lb F_calendar_Date [.int .i64 D] (tri (dateF D)) := by
  refine .top rfl (.eq (fun n => by rw [calendar_Date_eq]) ?_)
  have q0 : 0 ≤ Int.tdiv D 366 := Int.tdiv_nonneg h0 (by decide)
  have q1 : Int.tdiv D 366 ≤ 99 := by rw [Int.tdiv_eq_ediv_of_nonneg h0]; omega
  simp only [decF (show ¬ D < 0 by omega), cond_false, decF (show ¬ D ≥ 36525 by omega), wrap64 (x := Int.tdiv D 366) (by omega) (by omega), wrap64 (x := 2000 + Int.tdiv D 366) (by omega) (by omega)]
  obtain ⟨k, hk⟩ := Int.eq_ofNat_of_zero_le (show 0 ≤ 2099 - (2000 + Int.tdiv D 366) by omega)
  refine Evt.diag (date_years lb h0 hD k (2000 + Int.tdiv D 366) (by omega) (by omega) ?_)
  unfold firstF
  rw [Int.tdiv_eq_ediv_of_nonneg h0, Int.tdiv_eq_ediv_of_nonneg (by omega)]
  omega

/-! the reference's -/
def Reach (day y m : Int) (r : CV) : Prop := ∃ c, Evt fun n => ∀ k, c < k → r03_Date_L1 lb n k day y m = some r
theorem reach_stop {day y m : Int} (h : day < lenF y m) (h0 : 0 ≤ day) : Reach lb day y m (.tup [.int .i64 y, .int .i64 m, .int .i64 (day + 1)]) := by
  have := lenF_range y m
  refine ⟨0, (r03_Length_ret lb y m).mono fun n hn k hk => ?_⟩
  obtain ⟨k, rfl⟩ : ∃ m, k = m + 1 := ⟨k - 1, by omega⟩
  rw [r03_Date_L1_succ, hn]
  simp only [optO_s, asI_i, asB_b, asS_s, asL_l, asA_a, asT_t, get0, get1, get2, get3, chkO_t, cond_true, cond_false, List.length_cons, List.length_nil, Nat.zero_add, Nat.reduceAdd, Nat.reduceBEq, beq_self_eq_true, isCell_str, isCell_int]
  rw [decF (by omega), cond_false, r03_Date_J2_eq, wrap64 (by omega) (by omega)]
theorem reach_next {day y m : Int} {r : CV} (h : lenF y m ≤ day) (hd : day ≤ 100000) (hm : 1 ≤ m ∧ m < 12) (hr : Reach lb (day - lenF y m) y (m + 1) r) : Reach lb day y m r := by
  obtain ⟨c, hc⟩ := hr
  have := lenF_range y m
  refine ⟨c + 1, Evt.imp2 (r03_Length_ret lb y m) hc fun n hn hi k hk => ?_⟩
  obtain ⟨k, rfl⟩ : ∃ m, k = m + 1 := ⟨k - 1, by omega⟩
  rw [r03_Date_L1_succ, hn]
  simp only [optO_s, asI_i, asB_b, asS_s, asL_l, asA_a, asT_t, get0, get1, get2, get3, chkO_t, cond_true, cond_false, List.length_cons, List.length_nil, Nat.zero_add, Nat.reduceAdd, Nat.reduceBEq, beq_self_eq_true, isCell_str, isCell_int]
  rw [decT (by omega), cond_true, wrap64 (x := m + 1) (by omega) (by omega), beqF (by omega), cond_false, wrap64 (by omega) (by omega)]
  exact hi k (by omega)
theorem reach_year {day y : Int} {r : CV} (h : lenF y 12 ≤ day) (hd : day ≤ 100000) (hy : 2000 ≤ y ∧ y ≤ 3000) (hr : Reach lb (day - lenF y 12) (y + 1) 1 r) : Reach lb day y 12 r := by
  obtain ⟨c, hc⟩ := hr
  have := lenF_range y 12
  refine ⟨c + 1, Evt.imp2 (r03_Length_ret lb y 12) hc fun n hn hi k hk => ?_⟩
  obtain ⟨k, rfl⟩ : ∃ m, k = m + 1 := ⟨k - 1, by omega⟩
  rw [r03_Date_L1_succ, hn]
  simp only [optO_s, asI_i, asB_b, asS_s, asL_l, asA_a, asT_t, get0, get1, get2, get3, chkO_t, cond_true, cond_false, List.length_cons, List.length_nil, Nat.zero_add, Nat.reduceAdd, Nat.reduceBEq, beq_self_eq_true, isCell_str, isCell_int]
  rw [decT (by omega), cond_true, wrap64 (x := 12 + 1) (by omega) (by omega), beqT (by omega), cond_true, wrap64 (x := y + 1) (by omega) (by omega), wrap64 (by omega) (by omega)]
  exact hi k (by omega)
theorem reach_months (y : Int) (hy : 2000 ≤ y ∧ y ≤ 3000) {r : CV} : ∀ (k : Nat) (m day : Int), m + (k + 1) = 12 → 0 ≤ m → 0 ≤ day → day ≤ 100000 →
    (∀ t, monthsO y (k + 1) m day = .inl t → r = tri t) → (∀ q, monthsO y (k + 1) m day = .inr q → Reach lb q (y + 1) 1 r) → Reach lb day y (m + 1) r
  | k, m, day, h, hm, h0, h1, hl, hr => by
    have hlr := lenF_range y (m + 1)
    by_cases c : day < lenF y (m + 1)
    · simp only [monthsO, if_pos c] at hl
      rw [hl _ rfl]
      exact reach_stop lb c h0
    · simp only [monthsO, if_neg c] at hl hr
      match k, h with
      | 0, h =>
        have : m + 1 = 12 := by omega
        rw [this] at c hlr hr ⊢
        exact reach_year lb (by omega) h1 hy (hr _ rfl)
      | k + 1, h => exact reach_next lb (by omega) h1 ⟨by omega, by omega⟩ (reach_months y hy k (m + 1) (day - lenF y (m + 1)) (by omega) (by omega) (by omega) (by omega) hl hr)
theorem reach_years {D : Int} (h0 : 0 ≤ D) (hD : D < 36525) : ∀ (k : Nat) (y : Int), 2000 ≤ y → y + k = 2099 → firstF y ≤ D → Reach lb (D - firstF y) y 1 (tri (dateF D))
  | k, y, h1, h2, h3 => by
    have hf0 : 0 ≤ firstF y := by unfold firstF; have := Int.tdiv_nonneg (a := y - 2000 + 3) (b := 4) (by omega) (by omega); omega
    have hst := firstF_step y h1
    refine reach_months lb y ⟨h1, by omega⟩ 11 0 (D - firstF y) (by omega) (by omega) (by omega) (by omega) (fun t ht => ?_) fun q hq => ?_
    · by_cases c : firstF (y + 1) ≤ D
      · rw [monthsO_inr y _ (by rw [hst] at c; omega)] at ht
        cases ht
      · have hY : IsYear D y := ⟨h1, by omega, h3, by omega⟩
        have hy : y = yearF D := isYear_one hY (yearF_is h0 hD)
        have := dateF_inl h0 hD
        rw [← hy, ht] at this
        cases this
        rfl
    · by_cases c : firstF (y + 1) ≤ D
      · rw [monthsO_inr y _ (by rw [hst] at c; omega)] at hq
        cases hq
        rw [show D - firstF y - (if Int.tmod y 4 = 0 then 366 else 365) = D - firstF (y + 1) by rw [hst]; omega]
        match k, h2 with
        | 0, h2 =>
          exfalso
          have : y = 2099 := by omega
          subst this
          rw [show firstF (2099 + 1) = 36525 by decide] at c
          omega
        | k + 1, h2 => exact reach_years h0 hD k (y + 1) (by omega) (by omega) c
      · obtain ⟨t, ht⟩ := monthsO_inl y (D - firstF y) (by omega) (by rw [hst] at c; omega)
        rw [ht] at hq
        cases hq
theorem r03_Date_ret (D : Int) (h0 : 0 ≤ D) (hD : D < 36525) : Ret lb F_r03_Date [.int .i64 D] (tri (dateF D)) := by
  refine .top rfl (.eq (fun n => by rw [r03_Date_eq]) ?_)
  simp only [decF (show ¬ D < 0 by omega), cond_false, decF (show ¬ D ≥ 36525 by omega)]
  obtain ⟨c, hc⟩ := reach_years lb h0 hD 99 2000 (by omega) (by omega) (by rw [show firstF 2000 = 0 by decide]; exact h0)
  rw [show firstF 2000 = 0 by decide, Int.sub_zero] at hc
  exact Evt.diag hc

/-! dates as texts -/
def twoS (z : Int) : Bs := [UInt8.ofNat (IntKind.wrap .u8 (IntKind.wrap .i64 (48 + IntKind.wrap .i64 (Int.tdiv z 10)))).toNat, UInt8.ofNat (IntKind.wrap .u8 (IntKind.wrap .i64 (48 + Int.tmod z 10))).toNat]
theorem wrapu8 (x : Int) : 0 ≤ IntKind.wrap .u8 x ∧ IntKind.wrap .u8 x < 256 := by
  unfold IntKind.wrap
  simp only [IntKind.bits, IntKind.signed]
  simp
  omega
theorem bytes_two (x y : Int) : bytesOf [[CV.int .u8 (IntKind.wrap .u8 x)], [CV.int .u8 (IntKind.wrap .u8 y)]] = some [UInt8.ofNat (IntKind.wrap .u8 x).toNat, UInt8.ofNat (IntKind.wrap .u8 y).toNat] := by
  simp only [bytesOf, wrapu8, and_self, if_true, Option.map_some]
theorem calendar_two_ret (z : Int) : Ret lb F_calendar_two [.int .i64 z] (.str (twoS z)) :=
  .top rfl (.all fun n => by rw [calendar_two_eq, bytes_two, optO_s]; rfl)
theorem r03_two_ret (z : Int) : Ret lb F_r03_two [.int .i64 z] (.str (twoS z)) :=
  .top rfl (.all fun n => by rw [r03_two_eq, bytes_two, optO_s]; rfl)
def dateS (D : Int) : Bs := ((((twoS (IntKind.wrap .i64 (Int.tdiv (dateF D).1 100)) ++ twoS (Int.tmod (dateF D).1 100)) ++ [45]) ++ twoS (dateF D).2.1) ++ [45]) ++ twoS (dateF D).2.2
theorem calendar_Print_ret (D : Int) (h0 : 0 ≤ D) (hD : D < 36525) : Ret lb F_calendar_Print [.int .i64 D] (.str (dateS D)) := by
  refine .top rfl (.eq (fun n => by rw [calendar_Print_eq]) ?_)
  refine .call (calendar_Date_ret lb D h0 hD) ?_
  have hr := dateF_range h0 hD
  simp only [tri, optO_s, asI_i, asB_b, asS_s, asL_l, asA_a, asT_t, get0, get1, get2, get3, chkO_t, cond_true, cond_false, List.length_cons, List.length_nil, Nat.zero_add, Nat.reduceAdd, Nat.reduceBEq, beq_self_eq_true, isCell_str, isCell_int]
  rw [show ((dateF D).1 == 0) = false from beqF (by omega)]
  simp only [cond_false]
  refine .call (calendar_two_ret lb _) (.call (calendar_two_ret lb _) ?_)
  simp only [optO_s, asI_i, asB_b, asS_s, asL_l, asA_a, asT_t, get0, get1, get2, get3, chkO_t, cond_true, cond_false, List.length_cons, List.length_nil, Nat.zero_add, Nat.reduceAdd, Nat.reduceBEq, beq_self_eq_true, isCell_str, isCell_int]
  refine .chk (by simp [twoS]) (.chk (by simp [twoS]) (.call (calendar_two_ret lb _) ?_))
  simp only [optO_s, asI_i, asB_b, asS_s, asL_l, asA_a, asT_t, get0, get1, get2, get3, chkO_t, cond_true, cond_false, List.length_cons, List.length_nil, Nat.zero_add, Nat.reduceAdd, Nat.reduceBEq, beq_self_eq_true, isCell_str, isCell_int]
  refine .chk (by simp [twoS]) (.chk (by simp [twoS]) (.call (calendar_two_ret lb _) ?_))
  simp only [optO_s, asI_i, asB_b, asS_s, asL_l, asA_a, asT_t, get0, get1, get2, get3, chkO_t, cond_true, cond_false, List.length_cons, List.length_nil, Nat.zero_add, Nat.reduceAdd, Nat.reduceBEq, beq_self_eq_true, isCell_str, isCell_int]
  exact .chk (by simp [twoS]) (.of rfl)
theorem r03_Print_ret (D : Int) (h0 : 0 ≤ D) (hD : D < 36525) : Ret lb F_r03_Print [.int .i64 D] (.str (dateS D)) := by
  refine .top rfl (.eq (fun n => by rw [r03_Print_eq]) ?_)
  refine .call (r03_Date_ret lb D h0 hD) ?_
  have hr := dateF_range h0 hD
  simp only [tri, optO_s, asI_i, asB_b, asS_s, asL_l, asA_a, asT_t, get0, get1, get2, get3, chkO_t, cond_true, cond_false, List.length_cons, List.length_nil, Nat.zero_add, Nat.reduceAdd, Nat.reduceBEq, beq_self_eq_true, isCell_str, isCell_int]
  rw [show ((dateF D).1 == 0) = false from beqF (by omega)]
  simp only [cond_false]
  refine .call (r03_two_ret lb _) (.call (r03_two_ret lb _) ?_)
  simp only [optO_s, asI_i, asB_b, asS_s, asL_l, asA_a, asT_t, get0, get1, get2, get3, chkO_t, cond_true, cond_false, List.length_cons, List.length_nil, Nat.zero_add, Nat.reduceAdd, Nat.reduceBEq, beq_self_eq_true, isCell_str, isCell_int]
  refine .chk (by simp [twoS]) (.chk (by simp [twoS]) (.call (r03_two_ret lb _) ?_))
  simp only [optO_s, asI_i, asB_b, asS_s, asL_l, asA_a, asT_t, get0, get1, get2, get3, chkO_t, cond_true, cond_false, List.length_cons, List.length_nil, Nat.zero_add, Nat.reduceAdd, Nat.reduceBEq, beq_self_eq_true, isCell_str, isCell_int]
  refine .chk (by simp [twoS]) (.chk (by simp [twoS]) (.call (r03_two_ret lb _) ?_))
  simp only [optO_s, asI_i, asB_b, asS_s, asL_l, asA_a, asT_t, get0, get1, get2, get3, chkO_t, cond_true, cond_false, List.length_cons, List.length_nil, Nat.zero_add, Nat.reduceAdd, Nat.reduceBEq, beq_self_eq_true, isCell_str, isCell_int]
  exact .chk (by simp [twoS]) (.of rfl)
end Go.Proofs
/- Chapter 7 on plain data: the faults of a flight, by the program and by its reference. Conditions: as each says. -/
set_option linter.unusedSimpArgs false
namespace Go.Proofs
open Go.Am
variable (lb : Nat)
/-! lists that grow -/
theorem acc_ift {α : Type} {enc : α → List CV} (c : Bool) (F : List α) (x : α) (m : Nat) (hm : m ≤ 1000) (hF : F.length ≤ 100000) (J : Bool → List (List CV) → Option CV) :
    (bif c then chkO (room ((F.map enc).length + 1) m) (J (F.isEmpty && false) (F.map enc ++ [enc x])) else J F.isEmpty (F.map enc)) = J (F ++ if c then [x] else []).isEmpty ((F ++ if c then [x] else []).map enc) := by
  cases c with
  | true => simp only [cond_true, room_le (n := (F.map enc).length + 1) (b := m) (by simp; omega) hm, chkO_t, if_true, List.map_append, List.map_cons, List.map_nil, snoc_nil F x]
  | false => simp only [cond_false, Bool.false_eq_true, if_false, List.append_nil]
theorem bif_or {β : Type} (c d : Bool) (x y : β) : (bif c then x else bif d then x else y) = (bif c || d then x else y) := by cases c <;> rfl
theorem acc_if0 {α : Type} {enc : α → List CV} (c : Bool) (x : α) (J : Bool → List (List CV) → Option CV) :
    (bif !c then J false [enc x] else J true []) = J (if c then ([] : List α) else [x]).isEmpty ((if c then [] else [x]).map enc) := by cases c <;> rfl

/-! a leg's -/
abbrev Ft := Int × Bs
def ftenc (x : Ft) : List CV := [.int .i64 x.1, .str x.2]
def okM (m : Int) : Bool := decide (-1440 ≤ m ∧ m < 5760)
/-! a flight's -/
def wCarrier : Bs := [99, 97, 114, 114, 105, 101, 114]
def wNumber : Bs := [110, 117, 109, 98, 101, 114]
def wPeriod : Bs := [112, 101, 114, 105, 111, 100]
def wLegs : Bs := [108, 101, 103, 115]
def headG (f : Fl) : List Ft := ((if carrierB f.car then [] else [(5, wCarrier)]) ++ (if !(decide (f.num < 1) || decide (f.num > 9999)) then [] else [(2, wNumber)])) ++ (if perE f.fr f.to f.days != 0 then [(perE f.fr f.to f.days, wPeriod)] else [])
def headF (f : Fl) : List Ft := headG f ++ (if decide ((f.legs.length : Int) < 1) || decide ((f.legs.length : Int) > 6) then [(4, wLegs)] else [])
theorem headG_len (f : Fl) : (headG f).length ≤ 3 := by
  have h : ∀ (c : Bool) (e : Ft), (if c then [] else [e] : List Ft).length ≤ 1 := fun c e => by cases c <;> simp
  have h' : ∀ (c : Bool) (e : Ft), (if c then [e] else [] : List Ft).length ≤ 1 := fun c e => by cases c <;> simp
  unfold headG
  rw [List.length_append, List.length_append]
  have := h (carrierB f.car) (5, wCarrier)
  have := h (!(decide (f.num < 1) || decide (f.num > 9999))) (2, wNumber)
  have := h' (perE f.fr f.to f.days != 0) (perE f.fr f.to f.days, wPeriod)
  omega
theorem r07_head_ret (f : Fl) (hc : f.car.length ≤ 281474976710656) : Ret lb F_r07_head [flcv f] (.list (headF f).isEmpty ((headF f).map ftenc)) := by
  have h1' : ∀ (c : Bool) (e : Ft), (if c then [] else [e] : List Ft).length ≤ 1 := fun c e => by cases c <;> simp
  refine .top rfl (Evt.imp2 (r01_Carrier_ret lb f.car (by omega)) (r04_Check_ret lb f.fr f.to f.days) fun n a1 a2 => ?_)
  rw [r07_head_eq, a1]
  simp only [optO_s, asI_i, asB_b, asS_s, asL_l, asA_a, asT_t, get0, get1, get2, get3, chkO_t, cond_true, cond_false, List.length_cons, List.length_nil, Nat.zero_add, Nat.reduceAdd, Nat.reduceBEq, beq_self_eq_true, isCell_str, isCell_int]
  refine (acc_if0 (enc := ftenc) (carrierB f.car) (5, wCarrier) _).trans ?_
  rw [r07_head_J1_eq, bif_or]
  refine (acc_ift (enc := ftenc) _ _ (2, wNumber) 24 (by decide) (by have := h1' (carrierB f.car) (5, wCarrier); omega) _).trans ?_
  rw [r07_head_J2_eq, a2]
  simp only [optO_s, asI_i, asB_b, asS_s, asL_l, asA_a, asT_t, get0, get1, get2, get3, chkO_t, cond_true, cond_false, List.length_cons, List.length_nil, Nat.zero_add, Nat.reduceAdd, Nat.reduceBEq, beq_self_eq_true, isCell_str, isCell_int]
  have e2 : (if decide (f.num < 1) || decide (f.num > 9999) then [(2, wNumber)] else []) = (if !(decide (f.num < 1) || decide (f.num > 9999)) then [] else [((2, wNumber) : Ft)]) := by
    cases (decide (f.num < 1) || decide (f.num > 9999)) <;> rfl
  rw [e2]
  refine (acc_ift (enc := ftenc) _ _ (perE f.fr f.to f.days, wPeriod) 24 (by decide) (by
    have := h1' (carrierB f.car) (5, wCarrier)
    have := h1' (!(decide (f.num < 1) || decide (f.num > 9999))) (2, wNumber)
    rw [List.length_append]; omega) _).trans ?_
  rw [r07_head_J3_eq, bif_or, List.length_map]
  exact (acc_ift (enc := ftenc) _ _ (4, wLegs) 24 (by decide) (by have := headG_len f; unfold headG at this; omega) (fun b l => some (.list b l)))
end Go.Proofs
/- Chapter 7 on plain data: Check, by the program and by its reference. Conditions: as each says. -/
set_option linter.unusedSimpArgs false
namespace Go.Proofs
open Go.Am
variable (lb : Nat)
/-! the reference's -/
theorem dateS_len (d : Int) : (dateS d).length = 10 := rfl
end Go.Proofs
/- Chapter 7 on plain data: Check by the program. Conditions: as each says. -/
set_option linter.unusedSimpArgs false
namespace Go.Proofs
open Go.Am
variable (lb : Nat)
end Go.Proofs
/- Chapters 5 and 6 on plain data: what the reference's Check says of places; which flights and places are big. Conditions: as each says. -/
set_option linter.unusedSimpArgs false
namespace Go.Proofs
open Go.Am
variable (lb : Nat)
/-! zones -/
/-! airports -/
end Go.Proofs
/- Chapter 6 on plain data: the faults of distances and of places; chapter 7: which flights are big. Conditions: as each says. -/
set_option linter.unusedSimpArgs false
namespace Go.Proofs
open Go.Am
variable (lb : Nat)
/-! places -/
/-! which flights are big -/
def lgLen (x : Lg) : Nat := x.fro.length + x.to.length + x.eq.length
def bigB (p : Pc) (f : Fl) : Bool := decide (f.car.length + ((f.legs.take 20).map lgLen).sum > 400) || (decide (f.legs.length > 12) || (decide (p.aps.length > 20) || decide (p.dis.length > 40)))
theorem r07_Big_ret (p : Pc) (f : Fl) (hc : f.car.length ≤ 281474976710656) (hx : ∀ x ∈ f.legs, lgLen x ≤ 1000000000000000) (hl : f.legs.length ≤ 281474976710656) (hp1 : p.aps.length ≤ 281474976710656) (hp2 : p.dis.length ≤ 281474976710656) : Ret lb F_r07_Big [pcv p, flcv f] (.bool (bigB p f)) := by
  refine .top rfl (.eq (fun n => by rw [r07_Big_eq]) ?_)
  have fin : ∀ (n : Nat) (i : Int) (q : List Lg), q = f.legs.take 20 → r07_Big_J2 lb n p.an (p.aps.map apcv) p.dn (p.dis.map dicv) f.car f.num f.fr f.to f.days f.ln (f.legs.map lgcv) ((f.car.length + (q.map lgLen).sum : Nat) : Int) i = some (.bool (bigB p f)) := by
    intro n i q hq
    subst hq
    rw [r07_Big_J2_eq]
    unfold bigB
    simp only [List.length_map]
    by_cases c1 : f.car.length + ((f.legs.take 20).map lgLen).sum > 400
    · rw [decT c1, decT (by omega)]; rfl
    rw [decF c1, decF (by omega), cond_false, Bool.false_or]
    by_cases c2 : f.legs.length > 12
    · rw [decT c2, decT (by omega)]; rfl
    rw [decF c2, decF (by omega), cond_false, Bool.false_or]
    by_cases c3 : p.aps.length > 20
    · rw [decT c3, decT (by omega)]; rfl
    rw [decF c3, decF (by omega), cond_false, Bool.false_or]
    congr 2
    exact decide_eq_decide.2 (by omega)
  have key := loopL (enc := lgcv) (l := f.legs) (by omega) (P := fun q t n k => q.length ≤ 20 → (q.map lgLen).sum ≤ q.length * 1000000000000000 → r07_Big_L1 lb n k p.an (p.aps.map apcv) p.dn (p.dis.map dicv) f.car f.num f.fr f.to f.days f.ln (f.legs.map lgcv) ((f.car.length + (q.map lgLen).sum : Nat) : Int) (q.length : Int) = some (.bool (bigB p f))) (by
    refine .all fun n k hk _ => ?_
    rw [r07_Big_L1_succ]
    refine stF (decF (by simp)) ?_
    exact fin n _ _ (by rw [List.take_of_length_le (by omega)])) (by
    intro q x t hq hlt hat hw hev
    refine hev.mono fun n hn k hk hq20 hs => ?_
    have hn := hn k hk
    have hxl := hx x (by rw [← hq]; simp)
    rw [r07_Big_L1_succ]
    refine stT (decT hlt) ?_
    by_cases c : q.length < 20
    · refine stT (decT (by omega)) (stO _ hat (stC rfl (stO _ rfl (stO _ rfl (stO _ hat (stC rfl (stO _ rfl (stO _ rfl (stO _ hat (stC rfl (stO _ rfl (stO _ rfl ?_))))))))))))
      have h20 : q.length * 1000000000000000 ≤ 20 * 1000000000000000 := Nat.mul_le_mul (by omega) (Nat.le_refl _)
      unfold lgLen at hxl
      rw [hw, wrap64 (x := ((f.car.length + (q.map lgLen).sum : Nat) : Int) + (x.fro.length : Int)) (by omega) (by omega), wrap64 (x := ((f.car.length + (q.map lgLen).sum : Nat) : Int) + (x.fro.length : Int) + (x.to.length : Int)) (by omega) (by omega), wrap64 (by omega) (by omega)]
      have hn := hn (by simp; omega) (by simp [lgLen]; omega)
      have e : ((f.car.length + ((q ++ [x]).map lgLen).sum : Nat) : Int) = ((f.car.length + (q.map lgLen).sum : Nat) : Int) + (x.fro.length : Int) + (x.to.length : Int) + (x.eq.length : Int) := by
        simp [lgLen]; omega
      rw [← e]
      exact hn
    · refine stF (decF (by omega)) ?_
      exact fin n _ _ (by rw [← hq, List.take_append, List.take_of_length_le (by omega)]; simp; omega)) f.legs [] rfl
  refine (Evt.diag key).mono fun n hn => ?_
  simpa using hn (by simp) (by simp)
theorem sum_ge : ∀ {l : List Nat} {x : Nat}, x ∈ l → x ≤ l.sum
  | y :: l, x, h => by
    rw [List.sum_cons]
    rcases List.mem_cons.1 h with rfl | h
    · omega
    · have := sum_ge h; omega
theorem bigB_false {p : Pc} {f : Fl} (h : bigB p f = false) : f.car.length ≤ 400 ∧ (∀ x ∈ f.legs, x.fro.length ≤ 400 ∧ x.to.length ≤ 400 ∧ x.eq.length ≤ 400) ∧ f.legs.length ≤ 12 ∧ p.aps.length ≤ 20 ∧ p.dis.length ≤ 40 := by
  unfold bigB at h
  simp only [Bool.or_eq_false_iff, decide_eq_false_iff_not] at h
  obtain ⟨h1, h2, h3, h4⟩ := h
  rw [List.take_of_length_le (by omega)] at h1
  refine ⟨by omega, fun x hx => ?_, by omega, by omega, by omega⟩
  have : lgLen x ≤ (f.legs.map lgLen).sum := sum_ge (List.mem_map_of_mem hx)
  have e : lgLen x = x.fro.length + x.to.length + x.eq.length := rfl
  omega
end Go.Proofs
