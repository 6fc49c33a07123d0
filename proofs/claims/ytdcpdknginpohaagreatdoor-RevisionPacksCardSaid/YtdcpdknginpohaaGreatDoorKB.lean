/- Chapter 3 on plain data: the date of a day, by the program and by its reference. Conditions: as each says. -/
import Derived.Test.YtdcpdknginpohaaGreatDoorKA
import Derived.Test.YtdcpdknginpohaaGreatDoorGb
import Derived.Test.YtdcpdknginpohaaGreatDoorRA
set_option linter.unusedSimpArgs false
namespace Go.Proofs
open Go.Am
variable (lb : Nat)
def lenF (y m : Int) : Int := if m = 2 then (if Int.tmod y 4 = 0 then 29 else 28) else if m = 4 ∨ m = 6 ∨ m = 9 ∨ m = 11 then 30 else 31
theorem QfF (y m : Int) : Ret lb Qb6 [.int .i64 y, .int .i64 m] (.int .i64 (lenF y m)) := by
 refine .top rfl (.eq (fun n => by rw [Qpr]) (.all fun n => ?_))
 unfold lenF
 simp only [Qmr]
 by_cases h4 : m = 4
 ·subst h4; rfl
 by_cases h6 : m = 6
 ·subst h6; rfl
 by_cases h9 : m = 9
 ·subst h9; rfl
 rw [beqF h4, cond_false, beqF h6, cond_false, beqF h9, cond_false]
 by_cases h11 : m = 11
 ·subst h11; rfl
 rw [beqF h11, cond_false]
 by_cases h2 : m = 2
 ·subst h2
  rw [beqT rfl, cond_true, if_pos rfl]
  by_cases h : Int.tmod y 4 = 0
  ·rw [beqT h, cond_true, if_pos h]
  ·rw [beqF h, cond_false, if_neg h]
 ·rw [beqF h2, cond_false, if_neg h2, if_neg (by omega)]
theorem QcR (y m : Int) : 28 ≤ lenF y m ∧ lenF y m ≤ 31 := by
 unfold lenF
 split
 ·split <;> omega
 ·split <;> omega
def QaZ (y : Int) : Int := 365 * (y - 2000) + Int.tdiv (y - 2000 + 3) 4
theorem Ql9 (y : Int) (h : 2000 ≤ y) : QaZ (y + 1) = QaZ y + (if Int.tmod y 4 = 0 then 366 else 365) := by
 unfold QaZ
 rw [Int.tdiv_eq_ediv_of_nonneg (by omega), Int.tdiv_eq_ediv_of_nonneg (by omega), Int.tmod_eq_emod_of_nonneg (by omega)]
 split <;> omega
def QbD (y : Int) : Nat → Int → Int → (Int × Int × Int) ⊕ Int
 | 0, _, rest => .inr rest
 | k + 1, m, rest => if rest < lenF y (m + 1) then .inl (y, m + 1, rest + 1) else QbD y k (m + 1) (rest - lenF y (m + 1))
def sumL (y : Int) : Nat → Int → Int
 | 0, _ => 0
 | k + 1, m => lenF y (m + 1) + sumL y k (m + 1)
theorem Ql3 (y : Int) : ∀ (k : Nat) (m : Int), 0 ≤ sumL y k m
 | 0, _ => by simp [sumL]
 | k + 1, m => by
  have := Ql3 y k (m + 1)
  have := QcR y (m + 1)
  simp only [sumL]
  omega
theorem QoA (y : Int) : sumL y 12 0 = (if Int.tmod y 4 = 0 then 366 else 365) := by
 have e1 : lenF y (0 + 1) = 31 := rfl
 have e2 : lenF y (0 + 1 + 1) = if Int.tmod y 4 = 0 then 29 else 28 := rfl
 have e3 : lenF y (0 + 1 + 1 + 1) = 31 := rfl
 have e4 : lenF y (0 + 1 + 1 + 1 + 1) = 30 := rfl
 have e5 : lenF y (0 + 1 + 1 + 1 + 1 + 1) = 31 := rfl
 have e6 : lenF y (0 + 1 + 1 + 1 + 1 + 1 + 1) = 30 := rfl
 have e7 : lenF y (0 + 1 + 1 + 1 + 1 + 1 + 1 + 1) = 31 := rfl
 have e8 : lenF y (0 + 1 + 1 + 1 + 1 + 1 + 1 + 1 + 1) = 31 := rfl
 have e9 : lenF y (0 + 1 + 1 + 1 + 1 + 1 + 1 + 1 + 1 + 1) = 30 := rfl
 have e10 : lenF y (0 + 1 + 1 + 1 + 1 + 1 + 1 + 1 + 1 + 1 + 1) = 31 := rfl
 have e11 : lenF y (0 + 1 + 1 + 1 + 1 + 1 + 1 + 1 + 1 + 1 + 1 + 1) = 30 := rfl
 have e12 : lenF y (0 + 1 + 1 + 1 + 1 + 1 + 1 + 1 + 1 + 1 + 1 + 1 + 1) = 31 := rfl
 simp only [sumL, e1, e2, e3, e4, e5, e6, e7, e8, e9, e10, e11, e12]
 split <;> omega
theorem Qit (y : Int) : ∀ (k : Nat) (m rest : Int), 0 ≤ rest → (∀ t, QbD y k m rest = .inl t → rest < sumL y k m) ∧ (∀ r, QbD y k m rest = .inr r → r = rest - sumL y k m ∧ 0 ≤ r)
 | 0, m, rest, h => by
  refine ⟨fun t q => (by cases q), fun r q => ?_⟩
  cases q
  exact ⟨by simp [sumL], h⟩
 | k + 1, m, rest, h => by
  have hr := QcR y (m + 1)
  have hn := Ql3 y k (m + 1)
  by_cases c : rest < lenF y (m + 1)
  ·simp only [QbD, if_pos c, sumL]
   exact ⟨fun t q => (by omega), fun r q => (by cases q)⟩
  ·simp only [QbD, if_neg c, sumL]
   have ih := Qit y k (m + 1) (rest - lenF y (m + 1)) (by omega)
   refine ⟨fun t q => ?_, fun r q => ?_⟩
   ·have := ih.1 t q; omega
   ·have := ih.2 r q; omega
theorem Qlt (y rest : Int) (h : rest ≥ (if Int.tmod y 4 = 0 then 366 else 365)) : QbD y 12 0 rest = .inr (rest - (if Int.tmod y 4 = 0 then 366 else 365)) := by
 have h0 : 0 ≤ rest := by split at h <;> omega
 have hs := Qit y 12 0 rest h0
 rw [QoA] at hs
 cases e : QbD y 12 0 rest with
 | inl t => have := hs.1 t e; omega
 | inr r => rw [(hs.2 r e).1]
theorem Qlx (y rest : Int) (h0 : 0 ≤ rest) (h : rest < (if Int.tmod y 4 = 0 then 366 else 365)) : ∃ t, QbD y 12 0 rest = .inl t := by
 have hs := Qit y 12 0 rest h0
 rw [QoA] at hs
 cases e : QbD y 12 0 rest with
 | inl t => exact ⟨t, rfl⟩
 | inr r => have := hs.2 r e; omega
theorem QlT (y : Int) : ∀ (k : Nat) (m rest : Int), 0 ≤ rest → (∀ t, QbD y k m rest = .inl t → t.1 = y ∧ m + 1 ≤ t.2.1 ∧ t.2.1 ≤ m + k ∧ 1 ≤ t.2.2 ∧ t.2.2 ≤ lenF y t.2.1) ∧ (∀ r, QbD y k m rest = .inr r → 0 ≤ r ∧ rest ≥ r + 28 * k)
 | 0, m, rest, h => by
  refine ⟨fun t q => (by cases q), fun r q => ?_⟩
  cases q
  exact ⟨h, by simp⟩
 | k + 1, m, rest, h => by
  have hr := QcR y (m + 1)
  by_cases c : rest < lenF y (m + 1)
  ·simp only [QbD, if_pos c]
   refine ⟨fun t q => ?_, fun r q => by cases q⟩
   cases q
   simp only
   refine ⟨trivial, by omega, by omega, by omega, by omega⟩
  ·simp only [QbD, if_neg c]
   have ih := QlT y k (m + 1) (rest - lenF y (m + 1)) (by omega)
   refine ⟨fun t q => ?_, fun r q => ?_⟩
   ·have := ih.1 t q
    refine ⟨this.1, by omega, by omega, this.2.2.2⟩
   ·have := ih.2 r q
    refine ⟨this.1, by omega⟩
def Qks (D Y : Int) : Prop := 2000 ≤ Y ∧ Y ≤ 2099 ∧ QaZ Y ≤ D ∧ D < QaZ (Y + 1)
theorem QlK {a b : Int} (ha : 2000 ≤ a) (h : a ≤ b) : QaZ a ≤ QaZ b := by
 unfold QaZ
 rw [Int.tdiv_eq_ediv_of_nonneg (by omega), Int.tdiv_eq_ediv_of_nonneg (by omega)]
 omega
theorem Qsr {D a b : Int} (ha : Qks D a) (hb : Qks D b) : a = b := by
 rcases Int.lt_trichotomy a b with h | h | h
 ·have := QlK (a := a + 1) (b := b) (by have := ha.1; omega) (by omega)
  have := ha.2.2.2; have := hb.2.2.1; omega
 ·exact h
 ·have := QlK (a := b + 1) (b := a) (by have := hb.1; omega) (by omega)
  have := hb.2.2.2; have := ha.2.2.1; omega
def QpJ (D : Int) : Nat → Int → Int
 | 0, y => y
 | k + 1, y => if QaZ (y + 1) ≤ D then QpJ D k (y + 1) else y
theorem Qqb {D : Int} (hD : D < 36525) : ∀ (k : Nat) (y : Int), 2000 ≤ y → y + k = 2099 → QaZ y ≤ D → Qks D (QpJ D k y)
 | 0, y, h0, h, h1 => by
  have : y = 2099 := by omega
  subst this
  exact ⟨by show (2000 : Int) ≤ 2099; omega, by show (2099 : Int) ≤ 2099; omega, h1, by show D < QaZ 2100; rw [show QaZ 2100 = 36525 by decide]; exact hD⟩
 | k + 1, y, h0, h, h1 => by
  unfold QpJ
  split
  ·exact Qqb hD k (y + 1) (by omega) (by omega) (by assumption)
  ·exact ⟨h0, by omega, h1, by omega⟩
def Qfm (D : Int) : Int := QpJ D 99 2000
theorem Qmo {D : Int} (h0 : 0 ≤ D) (hD : D < 36525) : Qks D (Qfm D) := Qqb hD 99 2000 (by omega) (by omega) (by rw [show QaZ 2000 = 0 by decide]; exact h0)
def Qc5 (D : Int) : Int × Int × Int := match QbD (Qfm D) 12 0 (D - QaZ (Qfm D)) with
 | .inl t => t
 | .inr _ => (0, 0, 0)
theorem QoY {D : Int} (h0 : 0 ≤ D) (hD : D < 36525) : QbD (Qfm D) 12 0 (D - QaZ (Qfm D)) = .inl (Qc5 D) := by
 have hy := Qmo h0 hD
 obtain ⟨t, ht⟩ := Qlx (Qfm D) (D - QaZ (Qfm D)) (by have := hy.2.2.1; omega) (by have := hy.2.2.2; rw [Ql9 _ hy.1] at this; omega)
 unfold Qc5
 rw [ht]
theorem Qrr {D : Int} (h0 : 0 ≤ D) (hD : D < 36525) : 2000 ≤ (Qc5 D).1 ∧ (Qc5 D).1 ≤ 2099 ∧ 1 ≤ (Qc5 D).2.1 ∧ (Qc5 D).2.1 ≤ 12 ∧ 1 ≤ (Qc5 D).2.2 ∧ (Qc5 D).2.2 ≤ 31 := by
 have hy := Qmo h0 hD
 have h := (QlT (Qfm D) 12 0 (D - QaZ (Qfm D)) (by have := hy.2.2.1; omega)).1 _ (QoY h0 hD)
 have := QcR (Qfm D) (Qc5 D).2.1
 obtain ⟨h1, h2, h3, h4, h5⟩ := h
 have := hy.1; have := hy.2.1
 refine ⟨by omega, by omega, by omega, by omega, by omega, by omega⟩
def tri (t : Int × Int × Int) : CV := .tup [.int .i64 t.1, .int .i64 t.2.1, .int .i64 t.2.2]
def QhY (day y m : Int) (r : CV) : Prop := ∃ c, Evt fun n => ∀ k, c < k → Qez lb n k day y m = some r
theorem Qr9 {day y m : Int} (h : day < lenF y m) (h0 : 0 ≤ day) : QhY lb day y m (.tup [.int .i64 y, .int .i64 m, .int .i64 (day + 1)]) := by
 have := QcR y m
 refine ⟨0, (QfF lb y m).mono fun n hn k hk => ?_⟩
 obtain ⟨k, rfl⟩ : ∃ m, k = m + 1 := ⟨k - 1, by omega⟩
 rw [QeJ, hn]
 simp only [QaM, QaO, QaH, Qa4, QaV, Qbj, Qbh, get0, get1, get2, get3, QaN, cond_true, cond_false, List.length_cons, List.length_nil, Nat.zero_add, Nat.reduceAdd, Nat.reduceBEq, beq_self_eq_true, QaC, QaB]
 rw [decF (by omega), cond_false, Qof, Qaz (by omega) (by omega)]
theorem Qs6 {day y m : Int} {r : CV} (h : lenF y m ≤ day) (hd : day ≤ 100000) (hm : 1 ≤ m ∧ m < 12) (hr : QhY lb (day - lenF y m) y (m + 1) r) : QhY lb day y m r := by
 obtain ⟨c, hc⟩ := hr
 have := QcR y m
 refine ⟨c + 1, Evt.imp2 (QfF lb y m) hc fun n hn hi k hk => ?_⟩
 obtain ⟨k, rfl⟩ : ∃ m, k = m + 1 := ⟨k - 1, by omega⟩
 rw [QeJ, hn]
 simp only [QaM, QaO, QaH, Qa4, QaV, Qbj, Qbh, get0, get1, get2, get3, QaN, cond_true, cond_false, List.length_cons, List.length_nil, Nat.zero_add, Nat.reduceAdd, Nat.reduceBEq, beq_self_eq_true, QaC, QaB]
 rw [decT (by omega), cond_true, Qaz (x := m + 1) (by omega) (by omega), beqF (by omega), cond_false, Qaz (by omega) (by omega)]
 exact hi k (by omega)
theorem QsQ {day y : Int} {r : CV} (h : lenF y 12 ≤ day) (hd : day ≤ 100000) (hy : 2000 ≤ y ∧ y ≤ 3000) (hr : QhY lb (day - lenF y 12) (y + 1) 1 r) : QhY lb day y 12 r := by
 obtain ⟨c, hc⟩ := hr
 have := QcR y 12
 refine ⟨c + 1, Evt.imp2 (QfF lb y 12) hc fun n hn hi k hk => ?_⟩
 obtain ⟨k, rfl⟩ : ∃ m, k = m + 1 := ⟨k - 1, by omega⟩
 rw [QeJ, hn]
 simp only [QaM, QaO, QaH, Qa4, QaV, Qbj, Qbh, get0, get1, get2, get3, QaN, cond_true, cond_false, List.length_cons, List.length_nil, Nat.zero_add, Nat.reduceAdd, Nat.reduceBEq, beq_self_eq_true, QaC, QaB]
 rw [decT (by omega), cond_true, Qaz (x := 12 + 1) (by omega) (by omega), beqT (by omega), cond_true, Qaz (x := y + 1) (by omega) (by omega), Qaz (by omega) (by omega)]
 exact hi k (by omega)
theorem QkP (y : Int) (hy : 2000 ≤ y ∧ y ≤ 3000) {r : CV} : ∀ (k : Nat) (m day : Int), m + (k + 1) = 12 → 0 ≤ m → 0 ≤ day → day ≤ 100000 →
  (∀ t, QbD y (k + 1) m day = .inl t → r = tri t) → (∀ q, QbD y (k + 1) m day = .inr q → QhY lb q (y + 1) 1 r) → QhY lb day y (m + 1) r
 | k, m, day, h, hm, h0, h1, hl, hr => by
  have hlr := QcR y (m + 1)
  by_cases c : day < lenF y (m + 1)
  ·simp only [QbD, if_pos c] at hl
   rw [hl _ rfl]
   exact Qr9 lb c h0
  ·simp only [QbD, if_neg c] at hl hr
   match k, h with
   | 0, h =>
    have : m + 1 = 12 := by omega
    rw [this] at c hlr hr ⊢
    exact QsQ lb (by omega) h1 hy (hr _ rfl)
   | k + 1, h => exact Qs6 lb (by omega) h1 ⟨by omega, by omega⟩ (QkP y hy k (m + 1) (day - lenF y (m + 1)) (by omega) (by omega) (by omega) (by omega) hl hr)
theorem QlJ {D : Int} (h0 : 0 ≤ D) (hD : D < 36525) : ∀ (k : Nat) (y : Int), 2000 ≤ y → y + k = 2099 → QaZ y ≤ D → QhY lb (D - QaZ y) y 1 (tri (Qc5 D))
 | k, y, h1, h2, h3 => by
  have hf0 : 0 ≤ QaZ y := by unfold QaZ; have := Int.tdiv_nonneg (a := y - 2000 + 3) (b := 4) (by omega) (by omega); omega
  have hst := Ql9 y h1
  refine QkP lb y ⟨h1, by omega⟩ 11 0 (D - QaZ y) (by omega) (by omega) (by omega) (by omega) (fun t ht => ?_) fun q hq => ?_
  ·by_cases c : QaZ (y + 1) ≤ D
   ·rw [Qlt y _ (by rw [hst] at c; omega)] at ht
    cases ht
   ·have hY : Qks D y := ⟨h1, by omega, h3, by omega⟩
    have hy : y = Qfm D := Qsr hY (Qmo h0 hD)
    have := QoY h0 hD
    rw [← hy, ht] at this
    cases this
    rfl
  ·by_cases c : QaZ (y + 1) ≤ D
   ·rw [Qlt y _ (by rw [hst] at c; omega)] at hq
    cases hq
    rw [show D - QaZ y - (if Int.tmod y 4 = 0 then 366 else 365) = D - QaZ (y + 1) by rw [hst]; omega]
    match k, h2 with
    | 0, h2 =>
     exfalso
     have : y = 2099 := by omega
     subst this
     rw [show QaZ (2099 + 1) = 36525 by decide] at c
     omega
    | k + 1, h2 => exact QlJ h0 hD k (y + 1) (by omega) (by omega) c
   ·obtain ⟨t, ht⟩ := Qlx y (D - QaZ y) (by omega) (by rw [hst] at c; omega)
    rw [ht] at hq
    cases hq
theorem QqI (D : Int) (h0 : 0 ≤ D) (hD : D < 36525) : Ret lb QbR [.int .i64 D] (tri (Qc5 D)) := by
 refine .top rfl (.eq (fun n => by rw [Qrd]) ?_)
 simp only [decF (show ¬ D < 0 by omega), cond_false, decF (show ¬ D ≥ 36525 by omega)]
 obtain ⟨c, hc⟩ := QlJ lb h0 hD 99 2000 (by omega) (by omega) (by rw [show QaZ 2000 = 0 by decide]; exact h0)
 rw [show QaZ 2000 = 0 by decide, Int.sub_zero] at hc
 exact Evt.diag hc
def twoS (z : Int) : Bs := [UInt8.ofNat (IntKind.wrap .u8 (IntKind.wrap .i64 (48 + IntKind.wrap .i64 (Int.tdiv z 10)))).toNat, UInt8.ofNat (IntKind.wrap .u8 (IntKind.wrap .i64 (48 + Int.tmod z 10))).toNat]
theorem Qwj (x : Int) : 0 ≤ IntKind.wrap .u8 x ∧ IntKind.wrap .u8 x < 256 := by
 unfold IntKind.wrap
 simp only [IntKind.bits, IntKind.signed]
 simp
 omega
theorem QtY (x y : Int) : bytesOf [[CV.int .u8 (IntKind.wrap .u8 x)], [CV.int .u8 (IntKind.wrap .u8 y)]] = some [UInt8.ofNat (IntKind.wrap .u8 x).toNat, UInt8.ofNat (IntKind.wrap .u8 y).toNat] := by
 simp only [bytesOf, Qwj, and_self, if_true, Option.map_some]
theorem QfS (z : Int) : Ret lb QeW [.int .i64 z] (.str (twoS z)) :=
 .top rfl (.all fun n => by rw [QsO, QtY, QaM]; rfl)
def QpL (D : Int) : Bs := ((((twoS (IntKind.wrap .i64 (Int.tdiv (Qc5 D).1 100)) ++ twoS (Int.tmod (Qc5 D).1 100)) ++ [45]) ++ twoS (Qc5 D).2.1) ++ [45]) ++ twoS (Qc5 D).2.2
theorem QpB (D : Int) (h0 : 0 ≤ D) (hD : D < 36525) : Ret lb Qf5 [.int .i64 D] (.str (QpL D)) := by
 refine .top rfl (.eq (fun n => by rw [Qqa]) ?_)
 refine .call (QqI lb D h0 hD) ?_
 have hr := Qrr h0 hD
 simp only [tri, QaM, QaO, QaH, Qa4, QaV, Qbj, Qbh, get0, get1, get2, get3, QaN, cond_true, cond_false, List.length_cons, List.length_nil, Nat.zero_add, Nat.reduceAdd, Nat.reduceBEq, beq_self_eq_true, QaC, QaB]
 rw [show ((Qc5 D).1 == 0) = false from beqF (by omega)]
 simp only [cond_false]
 refine .call (QfS lb _) (.call (QfS lb _) ?_)
 simp only [QaM, QaO, QaH, Qa4, QaV, Qbj, Qbh, get0, get1, get2, get3, QaN, cond_true, cond_false, List.length_cons, List.length_nil, Nat.zero_add, Nat.reduceAdd, Nat.reduceBEq, beq_self_eq_true, QaC, QaB]
 refine .chk (by simp [twoS]) (.chk (by simp [twoS]) (.call (QfS lb _) ?_))
 simp only [QaM, QaO, QaH, Qa4, QaV, Qbj, Qbh, get0, get1, get2, get3, QaN, cond_true, cond_false, List.length_cons, List.length_nil, Nat.zero_add, Nat.reduceAdd, Nat.reduceBEq, beq_self_eq_true, QaC, QaB]
 refine .chk (by simp [twoS]) (.chk (by simp [twoS]) (.call (QfS lb _) ?_))
 simp only [QaM, QaO, QaH, Qa4, QaV, Qbj, Qbh, get0, get1, get2, get3, QaN, cond_true, cond_false, List.length_cons, List.length_nil, Nat.zero_add, Nat.reduceAdd, Nat.reduceBEq, beq_self_eq_true, QaC, QaB]
 exact .chk (by simp [twoS]) (.of rfl)
end Go.Proofs
set_option linter.unusedSimpArgs false
namespace Go.Proofs
open Go.Am
variable (lb : Nat)
theorem QtJ {α : Type} {enc : α → List CV} (c : Bool) (F : List α) (x : α) (m : Nat) (hm : m ≤ 1000) (hF : F.length ≤ 100000) (J : Bool → List (List CV) → Option CV) :
  (bif !c then chkO (room ((F.map enc).length + 1) m) (J (F.isEmpty && false) (F.map enc ++ [enc x])) else J F.isEmpty (F.map enc)) = J (F ++ if c then [] else [x]).isEmpty ((F ++ if c then [] else [x]).map enc) := by
 cases c with
 | false => simp only [Bool.not_false, cond_true, Qb9 (n := (F.map enc).length + 1) (b := m) (by simp; omega) hm, QaN, Bool.false_eq_true, if_false, List.map_append, List.map_cons, List.map_nil, QcF F x]
 | true => simp only [Bool.not_true, cond_false, if_true, List.append_nil]
theorem Qdz {α : Type} {enc : α → List CV} (c : Bool) (F : List α) (x : α) (m : Nat) (hm : m ≤ 1000) (hF : F.length ≤ 100000) (J : Bool → List (List CV) → Option CV) :
  (bif c then chkO (room ((F.map enc).length + 1) m) (J (F.isEmpty && false) (F.map enc ++ [enc x])) else J F.isEmpty (F.map enc)) = J (F ++ if c then [x] else []).isEmpty ((F ++ if c then [x] else []).map enc) := by
 cases c with
 | true => simp only [cond_true, Qb9 (n := (F.map enc).length + 1) (b := m) (by simp; omega) hm, QaN, if_true, List.map_append, List.map_cons, List.map_nil, QcF F x]
 | false => simp only [cond_false, Bool.false_eq_true, if_false, List.append_nil]
theorem QmW {β : Type} (c d : Bool) (x y : β) : (bif c then x else bif d then x else y) = (bif c || d then x else y) := by cases c <;> rfl
theorem Quf {β : Type} (c d : Bool) (x y : β) : (bif !c then x else bif !d then x else y) = (bif !(c && d) then x else y) := by cases c <;> rfl
theorem Qvp {α : Type} {enc : α → List CV} (c : Bool) (x : α) (J : Bool → List (List CV) → Option CV) :
  (bif !c then J false [enc x] else J true []) = J (if c then ([] : List α) else [x]).isEmpty ((if c then [] else [x]).map enc) := by cases c <;> rfl
def ienc (e : Int) : List CV := [CV.int .i64 e]
abbrev Ft := Int × Bs
def Qa0 (x : Ft) : List CV := [.int .i64 x.1, .str x.2]
def brk (q : List Lg) (x : Lg) : Bool := (match q.getLast? with | some y => !(x.fro == y.to) | none => false) || (q ++ [x]).any (fun z => z.fro == x.to)
theorem Qr7 (an : Bool) (l q t : List Lg) (x : Lg) (h : q ++ x :: t = l) (hl : l.length ≤ 1000) : Ret lb Qa6 [.list an (l.map lgcv), .int .i64 (q.length : Int)] (.bool (brk q x)) := by
 have hll : l.length = q.length + (t.length + 1) := by rw [← h]; simp
 have hlast : atL (l.map lgcv) (q.length : Int) = some (lgcv x) := QaI (by rw [← h]; simp)
 have key : Evt fun n => r07_broken_L1 lb n n an (l.map lgcv) (q.length : Int) 0 = some (.bool ((q ++ [x]).any (fun z => z.fro == x.to))) := by
  refine Evt.diag (m := (q ++ [x]).length) (Qeg (enc := lgcv) (l := q ++ [x]) (by simp; omega) (P := fun r s n k => r07_broken_L1 lb n k an (l.map lgcv) (q.length : Int) (r.length : Int) = some (.bool (s.any (fun z => z.fro == x.to)))) ?_ ?_ (q ++ [x]) [] rfl)
  ·refine .all fun n k => ?_
   rw [Qgk, decF (by simp; omega), cond_false, Qmz]
   rfl
  ·intro r z s hrs hlt hat hw2 hev
   refine hev.mono fun n hn k hk => ?_
   have hn := hn k hk
   have hlz : l = r ++ z :: (s ++ t) := by
    rw [← h, show q ++ x :: t = (q ++ [x]) ++ t by simp, ← hrs]; simp
   have hat : atL (l.map lgcv) (r.length : Int) = some (lgcv z) := QaI (by rw [hlz]; simp)
   rw [Qgk, decT (by simp at hlt; omega), cond_true]
   simp only [hat, hlast, lgcv, QaM, QaO, QaH, Qa4, QaV, Qbj, Qbh, get0, get1, get2, get3, QaN, cond_true, cond_false, List.length_cons, List.length_nil, Nat.zero_add, Nat.reduceAdd, Nat.reduceBEq, beq_self_eq_true, QaC, QaB, get4, hw2]
   by_cases e : z.fro = x.to
   ·rw [show (z.fro == x.to) = true by simpa using e, cond_true]
    simp [e]
   ·have e' : (z.fro == x.to) = false := by simpa using e
    rw [e', cond_false, hn]
    simp [e']
 refine .top rfl (key.mono fun n hn => ?_)
 rw [Qpm, hn]
 unfold brk
 rcases QgG q with rfl | ⟨q', y, rfl⟩
 ·rw [decF (by simp), cond_false]
  rfl
 ·have hwl : IntKind.wrap .i64 (((q' ++ [y]).length : Int) - 1) = (q'.length : Int) := by
   rw [List.length_append, List.length_singleton] at hll ⊢
   rw [Qaz (by omega) (by omega)]
   omega
  have hpre : atL (l.map lgcv) (q'.length : Int) = some (lgcv y) := QaI (by rw [← h]; simp)
  rw [decT (by rw [List.length_append, List.length_singleton]; omega), cond_true, hlast, hwl, hpre]
  simp only [lgcv, QaM, QaO, QaH, Qa4, QaV, Qbj, Qbh, get0, get1, get2, get3, QaN, cond_true, cond_false, List.length_cons, List.length_nil, Nat.zero_add, Nat.reduceAdd, Nat.reduceBEq, beq_self_eq_true, QaC, QaB, get4, List.getLast?_append, List.getLast?_singleton, Option.some_or]
  cases (x.fro == y.to) <;> rfl
def okM (m : Int) : Bool := decide (-1440 ≤ m ∧ m < 5760)
def Qkz (p : Pc) (s : Bs) : Bool := (QbQ s p.aps).isSome
def legE (p : Pc) (q : List Lg) (x : Lg) : List Int :=
 (((if Qfq x.eq 3 3 then [] else [5]) ++ (if Qkz p x.fro && Qkz p x.to then [] else [14])) ++ (if !brk q x then [] else [15])) ++ (if okM x.dep && okM x.arr then [] else [2])
theorem Qt7 (p : Pc) (q : List Lg) (x : Lg) : (legE p q x).length ≤ 4 := by
 unfold legE
 simp only [List.length_append]
 have h : ∀ (c : Bool) (e : Int), (if c then [] else [e] : List Int).length ≤ 1 := fun c e => by cases c <;> simp
 have := h (Qfq x.eq 3 3) 5
 have := h (Qkz p x.fro && Qkz p x.to) 14
 have := h (!brk q x) 15
 have := h (okM x.dep && okM x.arr) 2
 omega
theorem Qt0 (c : Bool) (e : Int) : (if c then [] else [e] : List Int).length ≤ 1 := by cases c <;> simp
def Qhu : Bs := [99, 97, 114, 114, 105, 101, 114]
def QgV : Bs := [110, 117, 109, 98, 101, 114]
def wPeriod : Bs := [112, 101, 114, 105, 111, 100]
def QsK : Bs := [108, 101, 103, 115]
def wLeg : Bs := [108, 101, 103, 32]
def wDay : Bs := [100, 97, 121, 32]
def QdO (f : Fl) : List Ft := ((if QeQ f.car then [] else [(5, Qhu)]) ++ (if !(decide (f.num < 1) || decide (f.num > 9999)) then [] else [(2, QgV)])) ++ (if perE f.fr f.to f.days != 0 then [(perE f.fr f.to f.days, wPeriod)] else [])
def QfT (f : Fl) : List Ft := QdO f ++ (if decide ((f.legs.length : Int) < 1) || decide ((f.legs.length : Int) > 6) then [(4, QsK)] else [])
def Qa8 (p : Pc) : List Lg → List Lg → List Ft
 | _, [] => []
 | q, x :: t => (legE p q x).map (fun e => (e, wLeg ++ Lib.itoa (q.length : Int))) ++ Qa8 p (q ++ [x]) t
def QcV (p : Pc) (l : List Lg) : List Int → List Ft
 | [] => []
 | d :: r => if ordF p l d then QcV p l r else [(13, wDay ++ QpL d)]
def QaL (p : Pc) (f : Fl) : List Ft :=
 if f.legs.length < 1 ∨ f.legs.length > 6 then QfT f else
 if QdO f ++ Qa8 p [] f.legs = [] then QcV p f.legs (Qan f.fr f.to f.days) else QdO f ++ Qa8 p [] f.legs
theorem Qj5 (f : Fl) : (QdO f).length ≤ 3 := by
 have h : ∀ (c : Bool) (e : Ft), (if c then [] else [e] : List Ft).length ≤ 1 := fun c e => by cases c <;> simp
 have h' : ∀ (c : Bool) (e : Ft), (if c then [e] else [] : List Ft).length ≤ 1 := fun c e => by cases c <;> simp
 unfold QdO
 rw [List.length_append, List.length_append]
 have := h (QeQ f.car) (5, Qhu)
 have := h (!(decide (f.num < 1) || decide (f.num > 9999))) (2, QgV)
 have := h' (perE f.fr f.to f.days != 0) (perE f.fr f.to f.days, wPeriod)
 omega
theorem Qqk (f : Fl) (hc : f.car.length ≤ 281474976710656) : Ret lb Qb5 [flcv f] (.list (QfT f).isEmpty ((QfT f).map Qa0)) := by
 have h1' : ∀ (c : Bool) (e : Ft), (if c then [] else [e] : List Ft).length ≤ 1 := fun c e => by cases c <;> simp
 refine .top rfl (Evt.imp2 (QmI lb f.car (by omega)) (QcP lb f.fr f.to f.days) fun n a1 a2 => ?_)
 rw [Qrw, a1]
 simp only [QaM, QaO, QaH, Qa4, QaV, Qbj, Qbh, get0, get1, get2, get3, QaN, cond_true, cond_false, List.length_cons, List.length_nil, Nat.zero_add, Nat.reduceAdd, Nat.reduceBEq, beq_self_eq_true, QaC, QaB]
 refine (Qvp (enc := Qa0) (QeQ f.car) (5, Qhu) _).trans ?_
 rw [Qn7, QmW]
 refine (Qdz (enc := Qa0) _ _ (2, QgV) 24 (by decide) (by have := h1' (QeQ f.car) (5, Qhu); omega) _).trans ?_
 rw [QnP, a2]
 simp only [QaM, QaO, QaH, Qa4, QaV, Qbj, Qbh, get0, get1, get2, get3, QaN, cond_true, cond_false, List.length_cons, List.length_nil, Nat.zero_add, Nat.reduceAdd, Nat.reduceBEq, beq_self_eq_true, QaC, QaB]
 have e2 : (if decide (f.num < 1) || decide (f.num > 9999) then [(2, QgV)] else []) = (if !(decide (f.num < 1) || decide (f.num > 9999)) then [] else [((2, QgV) : Ft)]) := by
  cases (decide (f.num < 1) || decide (f.num > 9999)) <;> rfl
 rw [e2]
 refine (Qdz (enc := Qa0) _ _ (perE f.fr f.to f.days, wPeriod) 24 (by decide) (by
  have := h1' (QeQ f.car) (5, Qhu)
  have := h1' (!(decide (f.num < 1) || decide (f.num > 9999))) (2, QgV)
  rw [List.length_append]; omega) _).trans ?_
 rw [Qod, QmW, List.length_map]
 exact (Qdz (enc := Qa0) _ _ (4, QsK) 24 (by decide) (by have := Qj5 f; unfold QdO at this; omega) (fun b l => some (.list b l)))
end Go.Proofs
set_option linter.unusedSimpArgs false
namespace Go.Proofs
open Go.Am
variable (lb : Nat)
theorem Qwt (c : Bool) (e : Ft) : (if c then [e] else [] : List Ft).length ≤ 1 := by cases c <;> simp
theorem Qt1 (c : Bool) (e : Ft) : (if c then [] else [e] : List Ft).length ≤ 1 := by cases c <;> simp
def QcN (F : List Ft) : CV := .list F.isEmpty (F.map Qa0)
theorem Qni (p : Pc) : ∀ (a r t : List Lg), Qa8 p r (a ++ t) = Qa8 p r a ++ Qa8 p (r ++ a) t
 | [], r, t => by simp [Qa8]
 | x :: a, r, t => by
  simp only [List.cons_append, Qa8, Qni p a (r ++ [x]) t, List.append_assoc, List.nil_append]
theorem Qjw (p : Pc) : ∀ (t r : List Lg), (Qa8 p r t).length ≤ 4 * t.length
 | [], r => by simp [Qa8]
 | x :: t, r => by
  have := Qjw p t (r ++ [x])
  have := Qt7 p r x
  simp only [Qa8, List.length_append, List.length_map, List.length_cons]
  omega
theorem Qrt (p : Pc) (q : List Lg) (x : Lg) : Qa8 p [] (q ++ [x]) = Qa8 p [] q ++ (legE p q x).map (fun e => (e, wLeg ++ Lib.itoa (q.length : Int))) := by
 rw [Qni]
 simp [Qa8]
theorem Qmv {fr days d : Int} : ∀ {k : Nat}, d ∈ upto fr days k → fr ≤ d ∧ d < fr + k
 | 0, h => by cases h
 | k + 1, h => by
  simp only [upto, List.mem_append] at h
  rcases h with h | h
  ·have := Qmv h; omega
  ·split at h
   ·have : d = fr + k := by simpa using h
    omega
   ·cases h
theorem Qe0 {fr to days d : Int} (h : d ∈ Qan fr to days) : 0 ≤ d ∧ d < 36525 ∧ hasF fr to days d = true := by
 unfold Qan at h
 split at h
 ·rename_i h0
  obtain ⟨a0, a1, a2, a3, a4, a5⟩ := Qey h0
  have hm := Qmv h
  refine ⟨by omega, by omega, ?_⟩
  have on : ∀ {k : Nat}, d ∈ upto fr days k → onF days d = true := by
   intro k
   induction k with
   | zero => intro h; cases h
   | succ k ih =>
    intro h
    simp only [upto, List.mem_append] at h
    rcases h with h | h
    ·exact ih h
    ·split at h
     ·have : d = fr + k := by simpa using h
      rw [this]; assumption
     ·cases h
  unfold hasF
  rw [decT h0, decT (by omega), decT (by omega), on h]
  rfl
 ·cases h
theorem Qdj (fr to days : Int) : (Qan fr to days).length ≤ 800 := by
 unfold Qan
 split
 ·rename_i h0
  obtain ⟨a0, a1, a2, a3, a4, a5⟩ := Qey h0
  have := QnG fr days (to + 1 - fr).toNat
  omega
 ·simp
theorem Qtl (p : Pc) (f : Fl) (d : Int) : ordG true 0 ((Qh2 p f d).map fun x => (x.dep, x.arr)) = ordF p f.legs d := by
 unfold ordF Qh2
 rw [List.map_map]
 rfl
theorem QwM (n jI : Nat) (ja : Bool) (aair2 : List (List CV)) (jb : Bool) (adis4 : List (List CV)) (bcar5 : List UInt8) (jk jd jg jc : Int) (jf : Bool) (bleg12 : List (List CV)) (jx : Int) (s370 : List UInt8) (wv wu : CV) (jt : Bool × List (List CV)) (c363 : List CV) (jY jW jV jZ j4 j8 wp wB wn wA wR wU wT wH wQ wL wP wS wK wJ : CV) (F : List Ft) (hF : F.length ≤ 1000) (d a : Bool) (h1 : C lb n Qcz [jV] = some (.bool d)) (h2 : C lb n Qcz [jZ] = some (.bool a)) :
  Qff lb n jI ja aair2 jb adis4 bcar5 jk jd jg jc jf bleg12 jx s370 wv wu jt c363 jY jW jV jZ j4 j8 wp wB wn wA wR wU wT wH wQ wL wP wS wK wJ F.isEmpty (F.map Qa0) = Qbx lb n jI ja aair2 jb adis4 bcar5 jk jd jg jc jf bleg12 jt (F ++ if d || a then [(2, wLeg ++ s370)] else []).isEmpty ((F ++ if d || a then [(2, wLeg ++ s370)] else []).map Qa0) (IntKind.wrap .i64 (jx + 1)) := by
 rw [QmG, h1, h2]
 simp only [QaM, QaO, QaH, Qa4, QaV, Qbj, Qbh, get0, get1, get2, get3, QaN, cond_true, cond_false, List.length_cons, List.length_nil, Nat.zero_add, Nat.reduceAdd, Nat.reduceBEq, beq_self_eq_true, QaC, QaB]
 rw [QmW]
 exact Qdz (enc := Qa0) (d || a) F (2, wLeg ++ s370) 24 (by decide) (by omega) (fun b l => Qbx lb n jI ja aair2 jb adis4 bcar5 jk jd jg jc jf bleg12 jt b l (IntKind.wrap .i64 (jx + 1)))
theorem Qwz (n jI : Nat) (ja : Bool) (aair2 : List (List CV)) (jb : Bool) (adis4 : List (List CV)) (bcar5 : List UInt8) (jk jd jg jc : Int) (jf : Bool) (bleg12 : List (List CV)) (jx : Int) (s370 : List UInt8) (wv wu : CV) (jt : Bool × List (List CV)) (c363 : List CV) (jY jW jV jZ j4 j8 wp wB wn wA wR wU wT wH wQ wL wP wS wK wJ : CV) (F : List Ft) (hF : F.length ≤ 900) (b d a : Bool) (h0 : C lb n Qa6 [.list jf bleg12, .int .i64 jx] = some (.bool b)) (h1 : C lb n Qcz [jV] = some (.bool d)) (h2 : C lb n Qcz [jZ] = some (.bool a)) :
  Qd4 lb n jI ja aair2 jb adis4 bcar5 jk jd jg jc jf bleg12 jx s370 wv wu jt c363 jY jW jV jZ j4 j8 wp wB wn wA wR wU wT wH wQ wL wP wS wK wJ F.isEmpty (F.map Qa0) = Qbx lb n jI ja aair2 jb adis4 bcar5 jk jd jg jc jf bleg12 jt ((F ++ if b then [(15, wLeg ++ s370)] else []) ++ if d || a then [(2, wLeg ++ s370)] else []).isEmpty
   (((F ++ if b then [(15, wLeg ++ s370)] else []) ++ if d || a then [(2, wLeg ++ s370)] else []).map Qa0) (IntKind.wrap .i64 (jx + 1)) := by
 rw [Qm0, h0]
 simp only [QaM, QaO, QaH, Qa4, QaV, Qbj, Qbh, get0, get1, get2, get3, QaN, cond_true, cond_false, List.length_cons, List.length_nil, Nat.zero_add, Nat.reduceAdd, Nat.reduceBEq, beq_self_eq_true, QaC, QaB]
 refine (Qdz (enc := Qa0) b F (15, wLeg ++ s370) 24 (by decide) (by omega) _).trans ?_
 have hl : (F ++ if b then [(15, wLeg ++ s370)] else []).length ≤ 1000 := by rw [List.length_append]; have := Qwt b (15, wLeg ++ s370); omega
 generalize (F ++ if b then [(15, wLeg ++ s370)] else []) = F1 at hl
 apply QwM
 ·exact hl
 ·exact h1
 ·exact h2
theorem Qwn (n jI : Nat) (ja : Bool) (aair2 : List (List CV)) (jb : Bool) (adis4 : List (List CV)) (bcar5 : List UInt8) (jk jd jg jc : Int) (jf : Bool) (bleg12 : List (List CV)) (jx : Int) (s370 : List UInt8) (jt : Bool × List (List CV)) (c363 : List CV) (jY jW jV jZ j4 j8 : CV) (F : List Ft) (hF : F.length ≤ 800) (sa sb : Bs) (aps : List Ap) (b d a : Bool)
  (h3 : C lb n Qa9 [.agg [.list ja aair2, .list jb adis4], jY] = some (Qlg sa aps)) (h4 : C lb n Qa9 [.agg [.list ja aair2, .list jb adis4], jW] = some (Qlg sb aps))
  (h0 : C lb n Qa6 [.list jf bleg12, .int .i64 jx] = some (.bool b)) (h1 : C lb n Qcz [jV] = some (.bool d)) (h2 : C lb n Qcz [jZ] = some (.bool a)) :
  Qe7 lb n jI ja aair2 jb adis4 bcar5 jk jd jg jc jf bleg12 jx s370 jt c363 jY jW jV jZ j4 j8 F.isEmpty (F.map Qa0) = Qbx lb n jI ja aair2 jb adis4 bcar5 jk jd jg jc jf bleg12 jt
   (((F ++ if (QbQ sa aps).isSome && (QbQ sb aps).isSome then [] else [(14, wLeg ++ s370)]) ++ if b then [(15, wLeg ++ s370)] else []) ++ if d || a then [(2, wLeg ++ s370)] else []).isEmpty
   ((((F ++ if (QbQ sa aps).isSome && (QbQ sb aps).isSome then [] else [(14, wLeg ++ s370)]) ++ if b then [(15, wLeg ++ s370)] else []) ++ if d || a then [(2, wLeg ++ s370)] else []).map Qa0) (IntKind.wrap .i64 (jx + 1)) := by
 rw [QmQ]
 refine stO _ h3 (stO _ rfl (stO _ rfl (stO _ rfl (stO _ rfl (stO _ rfl (stC rfl (stO _ rfl (stO _ rfl (stO _ rfl (stO _ rfl (stO _ rfl (stO _ h4 (stO _ rfl (stO _ rfl (stO _ rfl (stO _ rfl (stO _ rfl (stC rfl (stO _ rfl (stO _ rfl (stO _ rfl (stO _ rfl (stO _ rfl (stO _ rfl ?_))))))))))))))))))))))))
 refine (Quf _ _ _ _).trans ?_
 refine (QtJ (enc := Qa0) ((QbQ sa aps).isSome && (QbQ sb aps).isSome) F (14, wLeg ++ s370) 24 (by decide) (by omega) _).trans ?_
 have hl : (F ++ if (QbQ sa aps).isSome && (QbQ sb aps).isSome then [] else [(14, wLeg ++ s370)]).length ≤ 900 := by rw [List.length_append]; have := Qt1 ((QbQ sa aps).isSome && (QbQ sb aps).isSome) (14, wLeg ++ s370); omega
 generalize (F ++ if (QbQ sa aps).isSome && (QbQ sb aps).isSome then [] else [(14, wLeg ++ s370)]) = F1 at hl
 apply Qwz
 ·exact hl
 ·exact h0
 ·exact h1
 ·exact h2
theorem Qub (p : Pc) (q : List Lg) (x : Lg) (s : Bs) : (legE p q x).map (fun e => (e, s)) =
  (((if Qfq x.eq 3 3 then [] else [(5, s)]) ++ (if (QbQ x.fro p.aps).isSome && (QbQ x.to p.aps).isSome then [] else [(14, s)])) ++ (if brk q x then [(15, s)] else [])) ++ (if !okM x.dep || !okM x.arr then [((2, s) : Ft)] else []) := by
 unfold legE Qkz
 cases Qfq x.eq 3 3 <;> cases (QbQ x.fro p.aps).isSome && (QbQ x.to p.aps).isSome <;> cases brk q x <;> cases okM x.dep <;> cases okM x.arr <;> rfl
theorem QvP (d : Int) (f : Fl) (p : Pc) (hp : Qd1 p) (hl : f.legs.length ≤ 1000) (h : 0 ≤ d ∧ d < 36525) : Evt fun n => (C lb n QbF [pcv p, flcv f, .int .i64 d] = some (.list f.legs.isEmpty ((Qh2 p f d).map dtcv)) ∧
  C lb n Qa1 [.list f.legs.isEmpty ((Qh2 p f d).map dtcv)] = some (.bool (ordF p f.legs d))) ∧ C lb n Qf5 [.int .i64 d] = some (.str (QpL d)) := by
 refine Evt.and (Evt.and (QqG lb p hp f hl d) ?_) (QpB lb d h.1 h.2)
 have := QmJ lb f.legs.isEmpty (Qh2 p f d) (by unfold Qh2; rw [List.length_map]; exact hl)
 rw [Qtl] at this
 exact this
theorem QoE (d : Int) : (QpL d).length = 10 := rfl
theorem QvC (p : Pc) (hp : Qd1 p) (f : Fl) (hl : f.legs.length ≤ 1000) (wx : Int) (jt : Bool × List (List CV)) (b0 : Bool) (D : List Int) (hD : D.length ≤ 800) (hd : ∀ d ∈ D, 0 ≤ d ∧ d < 36525) :
  Evt fun n => QcI lb n n p.an (p.aps.map apcv) p.dn (p.dis.map dicv) f.car f.num f.fr f.to f.days f.ln (f.legs.map lgcv) wx (.list b0 (dcv D)) jt true [] 0 = some (QcN (QcV p f.legs D)) := by
 refine Evt.diag (m := D.length) (Qeg (enc := ienc) (l := D) (by omega) (P := fun q t n k => QcI lb n k p.an (p.aps.map apcv) p.dn (p.dis.map dicv) f.car f.num f.fr f.to f.days f.ln (f.legs.map lgcv) wx (.list b0 (dcv D)) jt true [] (q.length : Int) = some (QcN (QcV p f.legs t))) ?_ ?_ D [] rfl)
 ·refine .all fun n k => ?_
  rw [Qc4]
  refine stT rfl (stO _ rfl (stF (decF (by simp [dcv])) ?_))
  rw [Qfp]
  rfl
 ·intro q d t hq hlt hat hw hev
  refine Evt.imp2 hev (QvP lb d f p hp hl (hd d (by rw [← hq]; simp))) fun n hn hc k hk => ?_
  have hn := hn k hk
  obtain ⟨⟨c1, c2⟩, c3⟩ := hc
  have hat : atL (dcv D) (q.length : Int) = some [.int .i64 d] := hat
  have hlt : (q.length : Int) < ((dcv D).length : Int) := hlt
  rw [Qc4]
  refine stT rfl (stO _ rfl (stT (decT hlt) (stO _ rfl (stO _ hat (stC rfl (stO _ rfl (stO _ c1 (stO _ c2 (stO _ rfl ?_)))))))))
  unfold QcV
  cases ho : ordF p f.legs d with
  | true =>
   rw [hw]
   exact hn
  | false =>
   refine stT rfl (stO _ rfl (stO _ hat (stC rfl (stO _ rfl (stO _ c3 (stO _ rfl (stC (decT (by rw [QoE]; decide)) (stC rfl ?_))))))))
   obtain ⟨k, rfl⟩ : ∃ m, k = m + 1 := ⟨k - 1, by omega⟩
   rw [Qc4]
   refine stF rfl ?_
   rw [Qfp]
   rfl
theorem Qvj (p : Pc) (hp : Qd1 p) (f : Fl) (hl : f.legs.length ≤ 6) (hx : ∀ x ∈ f.legs, x.eq.length ≤ 281474976710656) (jt : Bool × List (List CV)) (H : List Ft) (hH : H.length ≤ 10) :
  Evt fun n => Qbx lb n n p.an (p.aps.map apcv) p.dn (p.dis.map dicv) f.car f.num f.fr f.to f.days f.ln (f.legs.map lgcv) jt H.isEmpty (H.map Qa0) 0 = some (QcN (if H ++ Qa8 p [] f.legs = [] then QcV p f.legs (Qan f.fr f.to f.days) else H ++ Qa8 p [] f.legs)) := by
 have key := Qeg (enc := lgcv) (l := f.legs) (by omega) (P := fun q t n k => Qbx lb n k p.an (p.aps.map apcv) p.dn (p.dis.map dicv) f.car f.num f.fr f.to f.days f.ln (f.legs.map lgcv) jt (H ++ Qa8 p [] q).isEmpty ((H ++ Qa8 p [] q).map Qa0) (q.length : Int) =
   some (QcN (if H ++ Qa8 p [] f.legs = [] then QcV p f.legs (Qan f.fr f.to f.days) else H ++ Qa8 p [] f.legs))) (by
  refine Evt.imp2 (Evt.and (Qfc lb f.fr f.to f.days) (Evt.ge 1)) (QvC lb p hp f (by omega) (f.legs.length : Int) jt (Qan f.fr f.to f.days).isEmpty (Qan f.fr f.to f.days) (Qdj _ _ _) fun d hd => ⟨(Qe0 hd).1, (Qe0 hd).2.1⟩) fun n h1 h2 k => ?_
  rw [QgD]
  refine stF (decF (by simp)) ?_
  rw [Qnt]
  refine stO _ h1.1 ?_
  generalize H ++ Qa8 p [] f.legs = F
  cases F with
  | nil =>
   rw [if_pos rfl]
   exact h2
  | cons e F =>
   rw [if_neg (by simp)]
   obtain ⟨m, hm⟩ : ∃ m, n = m + 1 := ⟨n - 1, by omega⟩
   have : ∀ k', k' = n → QcI lb n k' p.an (p.aps.map apcv) p.dn (p.dis.map dicv) f.car f.num f.fr f.to f.days f.ln (f.legs.map lgcv) (f.legs.length : Int) (.list (Qan f.fr f.to f.days).isEmpty (dcv (Qan f.fr f.to f.days))) jt (e :: F).isEmpty ((e :: F).map Qa0) 0 = some (QcN (e :: F)) := by
    intro k' ek
    rw [show k' = m + 1 by omega, Qc4]
    refine stF (beqF (by simp; omega)) ?_
    rw [Qfp]
    rfl
   exact this n rfl) (by
  intro q x t hq hlt hat hw hev
  have hll : f.legs.length = q.length + (t.length + 1) := by rw [← hq]; simp
  have hil := QdS (z := (q.length : Int)) (by omega) (by omega)
  have hF : (H ++ Qa8 p [] q).length ≤ 100 := by rw [List.length_append]; have := Qjw p q []; omega
  refine Evt.imp2 hev (Evt.imp2 (Evt.imp2 (Evt.imp2 (Qhe lb p x.fro hp.1) (Qhe lb p x.to hp.1) fun n a b => And.intro a b) (Evt.imp2 (QkK lb x.eq 3 3 (by have := hx x (by rw [← hq]; simp); omega)) (Qr7 lb f.ln f.legs q t x hq (by omega)) fun n a b => And.intro a b) fun n a b => And.intro a b)
   (Evt.imp2 (Evt.imp2 (Qlz lb x.dep) (Qlz lb x.arr) fun n a b => And.intro a b) (QdL lb (q.length : Int) (by omega) (by omega)) fun n a b => And.intro a b) fun n a b => And.intro a b) fun n hn hc k hk => ?_
  obtain ⟨⟨⟨a1, a2⟩, a3, a4⟩, ⟨a5, a6⟩, a7⟩ := hc
  have hn := hn k hk
  rw [QgD]
  refine stT (decT hlt) (stO _ hat (stC rfl (stO _ rfl (stO _ rfl (stO _ rfl (stO _ rfl (stO _ rfl (stO _ a7 (stO _ rfl (stC (decT (by simp; omega)) (stO _ a3 (stO _ rfl ?_))))))))))))
  refine (QtJ (enc := Qa0) (Qfq x.eq 3 3) (H ++ Qa8 p [] q) (5, wLeg ++ Lib.itoa (q.length : Int)) 24 (by decide) (by omega) _).trans ?_
  refine (Qwn lb (hF := by rw [List.length_append]; have := Qt1 (Qfq x.eq 3 3) (5, wLeg ++ Lib.itoa (q.length : Int)); omega) (h3 := a1) (h4 := a2) (h0 := a4) (h1 := a5) (h2 := a6) ..).trans ?_
  rw [Qrt, ← List.append_assoc, Qub, ← hw] at hn
  simp only [List.append_assoc] at hn ⊢
  exact hn) f.legs [] rfl
 refine (Evt.diag key).mono fun n hn => ?_
 simpa [Qa8] using hn
theorem Qug (f : Fl) (h : ¬ (f.legs.length < 1 ∨ f.legs.length > 6)) : QfT f = QdO f := by
 unfold QfT
 rw [decF (by omega), decF (by omega)]
 simp
theorem Qo9 (p : Pc) (hp : Qd1 p) (f : Fl) (hc : f.car.length ≤ 281474976710656) (hx : ∀ x ∈ f.legs, x.eq.length ≤ 281474976710656) : Ret lb Qah [pcv p, flcv f] (QcN (QaL p f)) := by
 refine .top rfl (.eq (fun n => by rw [Qqm]) ?_)
 refine .call (Qqk lb f hc) ?_
 simp only [QaV, QaM, List.length_map]
 unfold QaL
 by_cases h : f.legs.length < 1 ∨ f.legs.length > 6
 ·rw [if_pos h]
  refine .all fun n => ?_
  refine (QmW _ _ _ _).trans (stT (by rw [Bool.or_eq_true, decide_eq_true_eq, decide_eq_true_eq]; omega) rfl)
 ·rw [if_neg h]
  refine (Qvj lb p hp f (by omega) hx ((QfT f).isEmpty, (QfT f).map Qa0) (QdO f) (by have := Qj5 f; omega)).mono fun n hn => ?_
  refine stF (decF (by omega)) (stF (decF (by omega)) ?_)
  rw [Qug f h] at hn ⊢
  exact hn
end Go.Proofs
set_option linter.unusedSimpArgs false
namespace Go.Proofs
open Go.Am
variable (lb : Nat)
end Go.Proofs
