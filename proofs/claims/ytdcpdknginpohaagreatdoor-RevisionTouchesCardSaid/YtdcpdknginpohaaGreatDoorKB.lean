/- Chapter 3 on plain data: the date of a day, by the program and by its reference. Conditions: as each says. -/
import Derived.Test.YtdcpdknginpohaaGreatDoorKA
import Derived.Test.YtdcpdknginpohaaGreatDoorGb
import Derived.Test.YtdcpdknginpohaaGreatDoorRA
set_option linter.unusedSimpArgs false
namespace Go.Proofs
open Go.Am
variable (lb : Nat)
def lenF (y m : Int) : Int := if m = 2 then (if Int.tmod y 4 = 0 then 29 else 28) else if m = 4 ∨ m = 6 ∨ m = 9 ∨ m = 11 then 30 else 31
theorem Qe9 (y m : Int) : Ret lb QbU [.int .i64 y, .int .i64 m] (.int .i64 (lenF y m)) := by
 refine .top rfl (.eq (fun n => by rw [Qos]) (.all fun n => ?_))
 unfold lenF
 simp only [Qlp]
 by_cases h4 : m = 4
 ·subst h4; rfl
 by_cases h6 : m = 6
 ·subst h6; rfl
 by_cases h9 : m = 9
 ·subst h9; rfl
 rw [beqF h4, cond_false, beqF h6, cond_false, beqF h9, cond_false]
 by_cases h11 : m = 11
 ·subst h11; rfl
 rw [beqF h11, cond_false]
 by_cases h2 : m = 2
 ·subst h2
  rw [beqT rfl, cond_true, if_pos rfl]
  by_cases h : Int.tmod y 4 = 0
  ·rw [beqT h, cond_true, if_pos h]
  ·rw [beqF h, cond_false, if_neg h]
 ·rw [beqF h2, cond_false, if_neg h2, if_neg (by omega)]
theorem QcJ (y m : Int) : 28 ≤ lenF y m ∧ lenF y m ≤ 31 := by
 unfold lenF
 split
 ·split <;> omega
 ·split <;> omega
def QaY (y : Int) : Int := 365 * (y - 2000) + Int.tdiv (y - 2000 + 3) 4
theorem QkF (y : Int) (h : 2000 ≤ y) : QaY (y + 1) = QaY y + (if Int.tmod y 4 = 0 then 366 else 365) := by
 unfold QaY
 rw [Int.tdiv_eq_ediv_of_nonneg (by omega), Int.tdiv_eq_ediv_of_nonneg (by omega), Int.tmod_eq_emod_of_nonneg (by omega)]
 split <;> omega
def Qby (y : Int) : Nat → Int → Int → (Int × Int × Int) ⊕ Int
 | 0, _, rest => .inr rest
 | k + 1, m, rest => if rest < lenF y (m + 1) then .inl (y, m + 1, rest + 1) else Qby y k (m + 1) (rest - lenF y (m + 1))
def sumL (y : Int) : Nat → Int → Int
 | 0, _ => 0
 | k + 1, m => lenF y (m + 1) + sumL y k (m + 1)
theorem Qle (y : Int) : ∀ (k : Nat) (m : Int), 0 ≤ sumL y k m
 | 0, _ => by simp [sumL]
 | k + 1, m => by
  have := Qle y k (m + 1)
  have := QcJ y (m + 1)
  simp only [sumL]
  omega
theorem Qnz (y : Int) : sumL y 12 0 = (if Int.tmod y 4 = 0 then 366 else 365) := by
 have e1 : lenF y (0 + 1) = 31 := rfl
 have e2 : lenF y (0 + 1 + 1) = if Int.tmod y 4 = 0 then 29 else 28 := rfl
 have e3 : lenF y (0 + 1 + 1 + 1) = 31 := rfl
 have e4 : lenF y (0 + 1 + 1 + 1 + 1) = 30 := rfl
 have e5 : lenF y (0 + 1 + 1 + 1 + 1 + 1) = 31 := rfl
 have e6 : lenF y (0 + 1 + 1 + 1 + 1 + 1 + 1) = 30 := rfl
 have e7 : lenF y (0 + 1 + 1 + 1 + 1 + 1 + 1 + 1) = 31 := rfl
 have e8 : lenF y (0 + 1 + 1 + 1 + 1 + 1 + 1 + 1 + 1) = 31 := rfl
 have e9 : lenF y (0 + 1 + 1 + 1 + 1 + 1 + 1 + 1 + 1 + 1) = 30 := rfl
 have j8 : lenF y (0 + 1 + 1 + 1 + 1 + 1 + 1 + 1 + 1 + 1 + 1) = 31 := rfl
 have e11 : lenF y (0 + 1 + 1 + 1 + 1 + 1 + 1 + 1 + 1 + 1 + 1 + 1) = 30 := rfl
 have e12 : lenF y (0 + 1 + 1 + 1 + 1 + 1 + 1 + 1 + 1 + 1 + 1 + 1 + 1) = 31 := rfl
 simp only [sumL, e1, e2, e3, e4, e5, e6, e7, e8, e9, j8, e11, e12]
 split <;> omega
theorem QhH (y : Int) : ∀ (k : Nat) (m rest : Int), 0 ≤ rest → (∀ t, Qby y k m rest = .inl t → rest < sumL y k m) ∧ (∀ r, Qby y k m rest = .inr r → r = rest - sumL y k m ∧ 0 ≤ r)
 | 0, m, rest, h => by
  refine ⟨fun t q => (by cases q), fun r q => ?_⟩
  cases q
  exact ⟨by simp [sumL], h⟩
 | k + 1, m, rest, h => by
  have hr := QcJ y (m + 1)
  have hn := Qle y k (m + 1)
  by_cases c : rest < lenF y (m + 1)
  ·simp only [Qby, if_pos c, sumL]
   exact ⟨fun t q => (by omega), fun r q => (by cases q)⟩
  ·simp only [Qby, if_neg c, sumL]
   have ih := QhH y k (m + 1) (rest - lenF y (m + 1)) (by omega)
   refine ⟨fun t q => ?_, fun r q => ?_⟩
   ·have := ih.1 t q; omega
   ·have := ih.2 r q; omega
theorem Qk8 (y rest : Int) (h : rest ≥ (if Int.tmod y 4 = 0 then 366 else 365)) : Qby y 12 0 rest = .inr (rest - (if Int.tmod y 4 = 0 then 366 else 365)) := by
 have h0 : 0 ≤ rest := by split at h <;> omega
 have hs := QhH y 12 0 rest h0
 rw [Qnz] at hs
 cases e : Qby y 12 0 rest with
 | inl t => have := hs.1 t e; omega
 | inr r => rw [(hs.2 r e).1]
theorem QkH (y rest : Int) (h0 : 0 ≤ rest) (h : rest < (if Int.tmod y 4 = 0 then 366 else 365)) : ∃ t, Qby y 12 0 rest = .inl t := by
 have hs := QhH y 12 0 rest h0
 rw [Qnz] at hs
 cases e : Qby y 12 0 rest with
 | inl t => exact ⟨t, rfl⟩
 | inr r => have := hs.2 r e; omega
theorem Qk7 (y : Int) : ∀ (k : Nat) (m rest : Int), 0 ≤ rest → (∀ t, Qby y k m rest = .inl t → t.1 = y ∧ m + 1 ≤ t.2.1 ∧ t.2.1 ≤ m + k ∧ 1 ≤ t.2.2 ∧ t.2.2 ≤ lenF y t.2.1) ∧ (∀ r, Qby y k m rest = .inr r → 0 ≤ r ∧ rest ≥ r + 28 * k)
 | 0, m, rest, h => by
  refine ⟨fun t q => (by cases q), fun r q => ?_⟩
  cases q
  exact ⟨h, by simp⟩
 | k + 1, m, rest, h => by
  have hr := QcJ y (m + 1)
  by_cases c : rest < lenF y (m + 1)
  ·simp only [Qby, if_pos c]
   refine ⟨fun t q => ?_, fun r q => by cases q⟩
   cases q
   simp only
   refine ⟨trivial, by omega, by omega, by omega, by omega⟩
  ·simp only [Qby, if_neg c]
   have ih := Qk7 y k (m + 1) (rest - lenF y (m + 1)) (by omega)
   refine ⟨fun t q => ?_, fun r q => ?_⟩
   ·have := ih.1 t q
    refine ⟨this.1, by omega, by omega, this.2.2.2⟩
   ·have := ih.2 r q
    refine ⟨this.1, by omega⟩
def Qjc (D Y : Int) : Prop := 2000 ≤ Y ∧ Y ≤ 2099 ∧ QaY Y ≤ D ∧ D < QaY (Y + 1)
theorem QkQ {a b : Int} (ha : 2000 ≤ a) (h : a ≤ b) : QaY a ≤ QaY b := by
 unfold QaY
 rw [Int.tdiv_eq_ediv_of_nonneg (by omega), Int.tdiv_eq_ediv_of_nonneg (by omega)]
 omega
theorem Qrw {D a b : Int} (ha : Qjc D a) (hb : Qjc D b) : a = b := by
 rcases Int.lt_trichotomy a b with h | h | h
 ·have := QkQ (a := a + 1) (b := b) (by have := ha.1; omega) (by omega)
  have := ha.2.2.2; have := hb.2.2.1; omega
 ·exact h
 ·have := QkQ (a := b + 1) (b := a) (by have := hb.1; omega) (by omega)
  have := hb.2.2.2; have := ha.2.2.1; omega
def QoK (D : Int) : Nat → Int → Int
 | 0, y => y
 | k + 1, y => if QaY (y + 1) ≤ D then QoK D k (y + 1) else y
theorem QpN {D : Int} (hD : D < 36525) : ∀ (k : Nat) (y : Int), 2000 ≤ y → y + k = 2099 → QaY y ≤ D → Qjc D (QoK D k y)
 | 0, y, h0, h, h1 => by
  have : y = 2099 := by omega
  subst this
  exact ⟨by show (2000 : Int) ≤ 2099; omega, by show (2099 : Int) ≤ 2099; omega, h1, by show D < QaY 2100; rw [show QaY 2100 = 36525 by decide]; exact hD⟩
 | k + 1, y, h0, h, h1 => by
  unfold QoK
  split
  ·exact QpN hD k (y + 1) (by omega) (by omega) (by assumption)
  ·exact ⟨h0, by omega, h1, by omega⟩
def Qex (D : Int) : Int := QoK D 99 2000
theorem QlD {D : Int} (h0 : 0 ≤ D) (hD : D < 36525) : Qjc D (Qex D) := QpN hD 99 2000 (by omega) (by omega) (by rw [show QaY 2000 = 0 by decide]; exact h0)
def QcP (D : Int) : Int × Int × Int := match Qby (Qex D) 12 0 (D - QaY (Qex D)) with
 | .inl t => t
 | .inr _ => (0, 0, 0)
theorem QnY {D : Int} (h0 : 0 ≤ D) (hD : D < 36525) : Qby (Qex D) 12 0 (D - QaY (Qex D)) = .inl (QcP D) := by
 have hy := QlD h0 hD
 obtain ⟨t, ht⟩ := QkH (Qex D) (D - QaY (Qex D)) (by have := hy.2.2.1; omega) (by have := hy.2.2.2; rw [QkF _ hy.1] at this; omega)
 unfold QcP
 rw [ht]
theorem Qqm {D : Int} (h0 : 0 ≤ D) (hD : D < 36525) : 2000 ≤ (QcP D).1 ∧ (QcP D).1 ≤ 2099 ∧ 1 ≤ (QcP D).2.1 ∧ (QcP D).2.1 ≤ 12 ∧ 1 ≤ (QcP D).2.2 ∧ (QcP D).2.2 ≤ 31 := by
 have hy := QlD h0 hD
 have h := (Qk7 (Qex D) 12 0 (D - QaY (Qex D)) (by have := hy.2.2.1; omega)).1 _ (QnY h0 hD)
 have := QcJ (Qex D) (QcP D).2.1
 obtain ⟨h1, h2, h3, h4, h5⟩ := h
 have := hy.1; have := hy.2.1
 refine ⟨by omega, by omega, by omega, by omega, by omega, by omega⟩
def tri (t : Int × Int × Int) : CV := .tup [.int .i64 t.1, .int .i64 t.2.1, .int .i64 t.2.2]
def Qg4 (day y m : Int) (r : CV) : Prop := ∃ c, Evt fun n => ∀ k, c < k → Qd5 lb n k day y m = some r
theorem QqO {day y m : Int} (h : day < lenF y m) (h0 : 0 ≤ day) : Qg4 lb day y m (.tup [.int .i64 y, .int .i64 m, .int .i64 (day + 1)]) := by
 have := QcJ y m
 refine ⟨0, (Qe9 lb y m).mono fun n hn k hk => ?_⟩
 obtain ⟨k, rfl⟩ : ∃ m, k = m + 1 := ⟨k - 1, by omega⟩
 rw [Qep, hn]
 simp only [QaB, QaD, QaI, QaR, QaM, QaW, QaV, get0, get1, get2, get3, QaE, cond_true, cond_false, List.length_cons, List.length_nil, Nat.zero_add, Nat.reduceAdd, Nat.reduceBEq, beq_self_eq_true, Qas, Qar]
 rw [decF (by omega), cond_false, Qnj, QaF (by omega) (by omega)]
theorem QqR {day y m : Int} {r : CV} (h : lenF y m ≤ day) (hd : day ≤ 100000) (hm : 1 ≤ m ∧ m < 12) (hr : Qg4 lb (day - lenF y m) y (m + 1) r) : Qg4 lb day y m r := by
 obtain ⟨c, hc⟩ := hr
 have := QcJ y m
 refine ⟨c + 1, Evt.imp2 (Qe9 lb y m) hc fun n hn hi k hk => ?_⟩
 obtain ⟨k, rfl⟩ : ∃ m, k = m + 1 := ⟨k - 1, by omega⟩
 rw [Qep, hn]
 simp only [QaB, QaD, QaI, QaR, QaM, QaW, QaV, get0, get1, get2, get3, QaE, cond_true, cond_false, List.length_cons, List.length_nil, Nat.zero_add, Nat.reduceAdd, Nat.reduceBEq, beq_self_eq_true, Qas, Qar]
 rw [decT (by omega), cond_true, QaF (x := m + 1) (by omega) (by omega), beqF (by omega), cond_false, QaF (by omega) (by omega)]
 exact hi k (by omega)
theorem QrH {day y : Int} {r : CV} (h : lenF y 12 ≤ day) (hd : day ≤ 100000) (hy : 2000 ≤ y ∧ y ≤ 3000) (hr : Qg4 lb (day - lenF y 12) (y + 1) 1 r) : Qg4 lb day y 12 r := by
 obtain ⟨c, hc⟩ := hr
 have := QcJ y 12
 refine ⟨c + 1, Evt.imp2 (Qe9 lb y 12) hc fun n hn hi k hk => ?_⟩
 obtain ⟨k, rfl⟩ : ∃ m, k = m + 1 := ⟨k - 1, by omega⟩
 rw [Qep, hn]
 simp only [QaB, QaD, QaI, QaR, QaM, QaW, QaV, get0, get1, get2, get3, QaE, cond_true, cond_false, List.length_cons, List.length_nil, Nat.zero_add, Nat.reduceAdd, Nat.reduceBEq, beq_self_eq_true, Qas, Qar]
 rw [decT (by omega), cond_true, QaF (x := 12 + 1) (by omega) (by omega), beqT (by omega), cond_true, QaF (x := y + 1) (by omega) (by omega), QaF (by omega) (by omega)]
 exact hi k (by omega)
theorem QjT (y : Int) (hy : 2000 ≤ y ∧ y ≤ 3000) {r : CV} : ∀ (k : Nat) (m day : Int), m + (k + 1) = 12 → 0 ≤ m → 0 ≤ day → day ≤ 100000 →
  (∀ t, Qby y (k + 1) m day = .inl t → r = tri t) → (∀ q, Qby y (k + 1) m day = .inr q → Qg4 lb q (y + 1) 1 r) → Qg4 lb day y (m + 1) r
 | k, m, day, h, hm, h0, h1, hl, hr => by
  have hlr := QcJ y (m + 1)
  by_cases c : day < lenF y (m + 1)
  ·simp only [Qby, if_pos c] at hl
   rw [hl _ rfl]
   exact QqO lb c h0
  ·simp only [Qby, if_neg c] at hl hr
   match k, h with
   | 0, h =>
    have : m + 1 = 12 := by omega
    rw [this] at c hlr hr ⊢
    exact QrH lb (by omega) h1 hy (hr _ rfl)
   | k + 1, h => exact QqR lb (by omega) h1 ⟨by omega, by omega⟩ (QjT y hy k (m + 1) (day - lenF y (m + 1)) (by omega) (by omega) (by omega) (by omega) hl hr)
theorem Qlc {D : Int} (h0 : 0 ≤ D) (hD : D < 36525) : ∀ (k : Nat) (y : Int), 2000 ≤ y → y + k = 2099 → QaY y ≤ D → Qg4 lb (D - QaY y) y 1 (tri (QcP D))
 | k, y, h1, h2, h3 => by
  have hf0 : 0 ≤ QaY y := by unfold QaY; have := Int.tdiv_nonneg (a := y - 2000 + 3) (b := 4) (by omega) (by omega); omega
  have hst := QkF y h1
  refine QjT lb y ⟨h1, by omega⟩ 11 0 (D - QaY y) (by omega) (by omega) (by omega) (by omega) (fun t ht => ?_) fun q hq => ?_
  ·by_cases c : QaY (y + 1) ≤ D
   ·rw [Qk8 y _ (by rw [hst] at c; omega)] at ht
    cases ht
   ·have hY : Qjc D y := ⟨h1, by omega, h3, by omega⟩
    have hy : y = Qex D := Qrw hY (QlD h0 hD)
    have := QnY h0 hD
    rw [← hy, ht] at this
    cases this
    rfl
  ·by_cases c : QaY (y + 1) ≤ D
   ·rw [Qk8 y _ (by rw [hst] at c; omega)] at hq
    cases hq
    rw [show D - QaY y - (if Int.tmod y 4 = 0 then 366 else 365) = D - QaY (y + 1) by rw [hst]; omega]
    match k, h2 with
    | 0, h2 =>
     exfalso
     have : y = 2099 := by omega
     subst this
     rw [show QaY (2099 + 1) = 36525 by decide] at c
     omega
    | k + 1, h2 => exact Qlc h0 hD k (y + 1) (by omega) (by omega) c
   ·obtain ⟨t, ht⟩ := QkH y (D - QaY y) (by omega) (by rw [hst] at c; omega)
    rw [ht] at hq
    cases hq
theorem QpX (D : Int) (h0 : 0 ≤ D) (hD : D < 36525) : Ret lb QbM [.int .i64 D] (tri (QcP D)) := by
 refine .top rfl (.eq (fun n => by rw [Qqs]) ?_)
 simp only [decF (show ¬ D < 0 by omega), cond_false, decF (show ¬ D ≥ 36525 by omega)]
 obtain ⟨c, hc⟩ := Qlc lb h0 hD 99 2000 (by omega) (by omega) (by rw [show QaY 2000 = 0 by decide]; exact h0)
 rw [show QaY 2000 = 0 by decide, Int.sub_zero] at hc
 exact Evt.diag hc
def twoS (z : Int) : Bs := [UInt8.ofNat (IntKind.wrap .u8 (IntKind.wrap .i64 (48 + IntKind.wrap .i64 (Int.tdiv z 10)))).toNat, UInt8.ofNat (IntKind.wrap .u8 (IntKind.wrap .i64 (48 + Int.tmod z 10))).toNat]
theorem QuB (x : Int) : 0 ≤ IntKind.wrap .u8 x ∧ IntKind.wrap .u8 x < 256 := by
 unfold IntKind.wrap
 simp only [IntKind.bits, IntKind.signed]
 simp
 omega
theorem Qsj (x y : Int) : bytesOf [[CV.int .u8 (IntKind.wrap .u8 x)], [CV.int .u8 (IntKind.wrap .u8 y)]] = some [UInt8.ofNat (IntKind.wrap .u8 x).toNat, UInt8.ofNat (IntKind.wrap .u8 y).toNat] := by
 simp only [bytesOf, QuB, and_self, if_true, Option.map_some]
theorem Qfz (z : Int) : Ret lb Qev [.int .i64 z] (.str (twoS z)) :=
 .top rfl (.all fun n => by rw [Qrl, Qsj, QaB]; rfl)
def QoM (D : Int) : Bs := ((((twoS (IntKind.wrap .i64 (Int.tdiv (QcP D).1 100)) ++ twoS (Int.tmod (QcP D).1 100)) ++ [45]) ++ twoS (QcP D).2.1) ++ [45]) ++ twoS (QcP D).2.2
theorem Qop (D : Int) (h0 : 0 ≤ D) (hD : D < 36525) : Ret lb QfF [.int .i64 D] (.str (QoM D)) := by
 refine .top rfl (.eq (fun n => by rw [Qpc]) ?_)
 refine .call (QpX lb D h0 hD) ?_
 have hr := Qqm h0 hD
 simp only [tri, QaB, QaD, QaI, QaR, QaM, QaW, QaV, get0, get1, get2, get3, QaE, cond_true, cond_false, List.length_cons, List.length_nil, Nat.zero_add, Nat.reduceAdd, Nat.reduceBEq, beq_self_eq_true, Qas, Qar]
 rw [show ((QcP D).1 == 0) = false from beqF (by omega)]
 simp only [cond_false]
 refine .call (Qfz lb _) (.call (Qfz lb _) ?_)
 simp only [QaB, QaD, QaI, QaR, QaM, QaW, QaV, get0, get1, get2, get3, QaE, cond_true, cond_false, List.length_cons, List.length_nil, Nat.zero_add, Nat.reduceAdd, Nat.reduceBEq, beq_self_eq_true, Qas, Qar]
 refine .chk (by simp [twoS]) (.chk (by simp [twoS]) (.call (Qfz lb _) ?_))
 simp only [QaB, QaD, QaI, QaR, QaM, QaW, QaV, get0, get1, get2, get3, QaE, cond_true, cond_false, List.length_cons, List.length_nil, Nat.zero_add, Nat.reduceAdd, Nat.reduceBEq, beq_self_eq_true, Qas, Qar]
 refine .chk (by simp [twoS]) (.chk (by simp [twoS]) (.call (Qfz lb _) ?_))
 simp only [QaB, QaD, QaI, QaR, QaM, QaW, QaV, get0, get1, get2, get3, QaE, cond_true, cond_false, List.length_cons, List.length_nil, Nat.zero_add, Nat.reduceAdd, Nat.reduceBEq, beq_self_eq_true, Qas, Qar]
 exact .chk (by simp [twoS]) (.of rfl)
end Go.Proofs
set_option linter.unusedSimpArgs false
namespace Go.Proofs
open Go.Am
variable (lb : Nat)
theorem Qsb {α : Type} {enc : α → List CV} (c : Bool) (F : List α) (x : α) (m : Nat) (hm : m ≤ 1000) (hF : F.length ≤ 100000) (J : Bool → List (List CV) → Option CV) :
  (bif !c then chkO (room ((F.map enc).length + 1) m) (J (F.isEmpty && false) (F.map enc ++ [enc x])) else J F.isEmpty (F.map enc)) = J (F ++ if c then [] else [x]).isEmpty ((F ++ if c then [] else [x]).map enc) := by
 cases c with
 | false => simp only [Bool.not_false, cond_true, QbN (n := (F.map enc).length + 1) (b := m) (by simp; omega) hm, QaE, Bool.false_eq_true, if_false, List.map_append, List.map_cons, List.map_nil, Qbv F x]
 | true => simp only [Bool.not_true, cond_false, if_true, List.append_nil]
theorem Qdl {α : Type} {enc : α → List CV} (c : Bool) (F : List α) (x : α) (m : Nat) (hm : m ≤ 1000) (hF : F.length ≤ 100000) (J : Bool → List (List CV) → Option CV) :
  (bif c then chkO (room ((F.map enc).length + 1) m) (J (F.isEmpty && false) (F.map enc ++ [enc x])) else J F.isEmpty (F.map enc)) = J (F ++ if c then [x] else []).isEmpty ((F ++ if c then [x] else []).map enc) := by
 cases c with
 | true => simp only [cond_true, QbN (n := (F.map enc).length + 1) (b := m) (by simp; omega) hm, QaE, if_true, List.map_append, List.map_cons, List.map_nil, Qbv F x]
 | false => simp only [cond_false, Bool.false_eq_true, if_false, List.append_nil]
theorem QlX {β : Type} (c d : Bool) (x y : β) : (bif c then x else bif d then x else y) = (bif c || d then x else y) := by cases c <;> rfl
theorem QsI {β : Type} (c d : Bool) (x y : β) : (bif !c then x else bif !d then x else y) = (bif !(c && d) then x else y) := by cases c <;> rfl
theorem QtL {α : Type} {enc : α → List CV} (c : Bool) (x : α) (J : Bool → List (List CV) → Option CV) :
  (bif !c then J false [enc x] else J true []) = J (if c then ([] : List α) else [x]).isEmpty ((if c then [] else [x]).map enc) := by cases c <;> rfl
def ienc (e : Int) : List CV := [CV.int .i64 e]
abbrev Ft := Int × Bs
def Qa1 (x : Ft) : List CV := [.int .i64 x.1, .str x.2]
def brk (q : List Lg) (x : Lg) : Bool := (match q.getLast? with | some y => !(x.fro == y.to) | none => false) || (q ++ [x]).any (fun z => z.fro == x.to)
theorem Qri (an : Bool) (l q t : List Lg) (x : Lg) (h : q ++ x :: t = l) (hl : l.length ≤ 1000) : Ret lb Qa5 [.list an (l.map lgcv), .int .i64 (q.length : Int)] (.bool (brk q x)) := by
 have hll : l.length = q.length + (t.length + 1) := by rw [← h]; simp
 have hlast : atL (l.map lgcv) (q.length : Int) = some (lgcv x) := QaO (by rw [← h]; simp)
 have key : Evt fun n => r07_broken_L1 lb n n an (l.map lgcv) (q.length : Int) 0 = some (.bool ((q ++ [x]).any (fun z => z.fro == x.to))) := by
  refine Evt.diag (m := (q ++ [x]).length) (QcD (enc := lgcv) (l := q ++ [x]) (by simp; omega) (P := fun r s n k => r07_broken_L1 lb n k an (l.map lgcv) (q.length : Int) (r.length : Int) = some (.bool (s.any (fun z => z.fro == x.to)))) ?_ ?_ (q ++ [x]) [] rfl)
  ·refine .all fun n k => ?_
   rw [QfR, decF (by simp; omega), cond_false, Qlo]
   rfl
  ·intro r z s hrs hlt hat hw2 hev
   refine hev.mono fun n hn k hk => ?_
   have hn := hn k hk
   have hlz : l = r ++ z :: (s ++ t) := by
    rw [← h, show q ++ x :: t = (q ++ [x]) ++ t by simp, ← hrs]; simp
   have hat : atL (l.map lgcv) (r.length : Int) = some (lgcv z) := QaO (by rw [hlz]; simp)
   rw [QfR, decT (by simp at hlt; omega), cond_true]
   simp only [hat, hlast, lgcv, QaB, QaD, QaI, QaR, QaM, QaW, QaV, get0, get1, get2, get3, QaE, cond_true, cond_false, List.length_cons, List.length_nil, Nat.zero_add, Nat.reduceAdd, Nat.reduceBEq, beq_self_eq_true, Qas, Qar, get4, hw2]
   by_cases e : z.fro = x.to
   ·rw [show (z.fro == x.to) = true by simpa using e, cond_true]
    simp [e]
   ·have e' : (z.fro == x.to) = false := by simpa using e
    rw [e', cond_false, hn]
    simp [e']
 refine .top rfl (key.mono fun n hn => ?_)
 rw [Qoo, hn]
 unfold brk
 rcases Qgi q with rfl | ⟨q', y, rfl⟩
 ·rw [decF (by simp), cond_false]
  rfl
 ·have hwl : IntKind.wrap .i64 (((q' ++ [y]).length : Int) - 1) = (q'.length : Int) := by
   rw [List.length_append, List.length_singleton] at hll ⊢
   rw [QaF (by omega) (by omega)]
   omega
  have hpre : atL (l.map lgcv) (q'.length : Int) = some (lgcv y) := QaO (by rw [← h]; simp)
  rw [decT (by rw [List.length_append, List.length_singleton]; omega), cond_true, hlast, hwl, hpre]
  simp only [lgcv, QaB, QaD, QaI, QaR, QaM, QaW, QaV, get0, get1, get2, get3, QaE, cond_true, cond_false, List.length_cons, List.length_nil, Nat.zero_add, Nat.reduceAdd, Nat.reduceBEq, beq_self_eq_true, Qas, Qar, get4, List.getLast?_append, List.getLast?_singleton, Option.some_or]
  cases (x.fro == y.to) <;> rfl
def okM (m : Int) : Bool := decide (-1440 ≤ m ∧ m < 5760)
def QjZ (p : Pc) (s : Bs) : Bool := (QbF s p.aps).isSome
def legE (p : Pc) (q : List Lg) (x : Lg) : List Int :=
 (((if QeJ x.eq 3 3 then [] else [5]) ++ (if QjZ p x.fro && QjZ p x.to then [] else [14])) ++ (if !brk q x then [] else [15])) ++ (if okM x.dep && okM x.arr then [] else [2])
theorem Qs6 (p : Pc) (q : List Lg) (x : Lg) : (legE p q x).length ≤ 4 := by
 unfold legE
 simp only [List.length_append]
 have h : ∀ (c : Bool) (e : Int), (if c then [] else [e] : List Int).length ≤ 1 := fun c e => by cases c <;> simp
 have := h (QeJ x.eq 3 3) 5
 have := h (QjZ p x.fro && QjZ p x.to) 14
 have := h (!brk q x) 15
 have := h (okM x.dep && okM x.arr) 2
 omega
theorem Qsy (c : Bool) (e : Int) : (if c then [] else [e] : List Int).length ≤ 1 := by cases c <;> simp
def Qgq : Bs := [99, 97, 114, 114, 105, 101, 114]
def Qgo : Bs := [110, 117, 109, 98, 101, 114]
def wPeriod : Bs := [112, 101, 114, 105, 111, 100]
def QrC : Bs := [108, 101, 103, 115]
def wLeg : Bs := [108, 101, 103, 32]
def wDay : Bs := [100, 97, 121, 32]
def QeP (f : Fl) : List Ft := ((if Qem f.car then [] else [(5, Qgq)]) ++ (if !(decide (f.num < 1) || decide (f.num > 9999)) then [] else [(2, Qgo)])) ++ (if perE f.fr f.to f.days != 0 then [(perE f.fr f.to f.days, wPeriod)] else [])
def Qft (f : Fl) : List Ft := QeP f ++ (if decide ((f.legs.length : Int) < 1) || decide ((f.legs.length : Int) > 6) then [(4, QrC)] else [])
def Qa8 (p : Pc) : List Lg → List Lg → List Ft
 | _, [] => []
 | q, x :: t => (legE p q x).map (fun e => (e, wLeg ++ Lib.itoa (q.length : Int))) ++ Qa8 p (q ++ [x]) t
def Qc6 (p : Pc) (l : List Lg) : List Int → List Ft
 | [] => []
 | d :: r => if ordF p l d then Qc6 p l r else [(13, wDay ++ QoM d)]
def QaZ (p : Pc) (f : Fl) : List Ft :=
 if f.legs.length < 1 ∨ f.legs.length > 6 then Qft f else
 if QeP f ++ Qa8 p [] f.legs = [] then Qc6 p f.legs (QaA f.fr f.to f.days) else QeP f ++ Qa8 p [] f.legs
theorem QjI (f : Fl) : (QeP f).length ≤ 3 := by
 have h : ∀ (c : Bool) (e : Ft), (if c then [] else [e] : List Ft).length ≤ 1 := fun c e => by cases c <;> simp
 have h' : ∀ (c : Bool) (e : Ft), (if c then [e] else [] : List Ft).length ≤ 1 := fun c e => by cases c <;> simp
 unfold QeP
 rw [List.length_append, List.length_append]
 have := h (Qem f.car) (5, Qgq)
 have := h (!(decide (f.num < 1) || decide (f.num > 9999))) (2, Qgo)
 have := h' (perE f.fr f.to f.days != 0) (perE f.fr f.to f.days, wPeriod)
 omega
theorem Qpt (f : Fl) (hc : f.car.length ≤ 281474976710656) : Ret lb QbX [flcv f] (.list (Qft f).isEmpty ((Qft f).map Qa1)) := by
 have h1' : ∀ (c : Bool) (e : Ft), (if c then [] else [e] : List Ft).length ≤ 1 := fun c e => by cases c <;> simp
 refine .top rfl (Evt.imp2 (Ql5 lb f.car (by omega)) (Qdd lb f.fr f.to f.days) fun n a1 a2 => ?_)
 rw [Qqp, a1]
 simp only [QaB, QaD, QaI, QaR, QaM, QaW, QaV, get0, get1, get2, get3, QaE, cond_true, cond_false, List.length_cons, List.length_nil, Nat.zero_add, Nat.reduceAdd, Nat.reduceBEq, beq_self_eq_true, Qas, Qar]
 refine (QtL (enc := Qa1) (Qem f.car) (5, Qgq) _).trans ?_
 rw [QmR, QlX]
 refine (Qdl (enc := Qa1) _ _ (2, Qgo) 24 (by decide) (by have := h1' (Qem f.car) (5, Qgq); omega) _).trans ?_
 rw [QmM, a2]
 simp only [QaB, QaD, QaI, QaR, QaM, QaW, QaV, get0, get1, get2, get3, QaE, cond_true, cond_false, List.length_cons, List.length_nil, Nat.zero_add, Nat.reduceAdd, Nat.reduceBEq, beq_self_eq_true, Qas, Qar]
 have e2 : (if decide (f.num < 1) || decide (f.num > 9999) then [(2, Qgo)] else []) = (if !(decide (f.num < 1) || decide (f.num > 9999)) then [] else [((2, Qgo) : Ft)]) := by
  cases (decide (f.num < 1) || decide (f.num > 9999)) <;> rfl
 rw [e2]
 refine (Qdl (enc := Qa1) _ _ (perE f.fr f.to f.days, wPeriod) 24 (by decide) (by
  have := h1' (Qem f.car) (5, Qgq)
  have := h1' (!(decide (f.num < 1) || decide (f.num > 9999))) (2, Qgo)
  rw [List.length_append]; omega) _).trans ?_
 rw [Qnp, QlX, List.length_map]
 exact (Qdl (enc := Qa1) _ _ (4, QrC) 24 (by decide) (by have := QjI f; unfold QeP at this; omega) (fun b l => some (.list b l)))
end Go.Proofs
set_option linter.unusedSimpArgs false
namespace Go.Proofs
open Go.Am
variable (lb : Nat)
theorem QuC (c : Bool) (e : Ft) : (if c then [e] else [] : List Ft).length ≤ 1 := by cases c <;> simp
theorem Qsw (c : Bool) (e : Ft) : (if c then [] else [e] : List Ft).length ≤ 1 := by cases c <;> simp
def QcC (F : List Ft) : CV := .list F.isEmpty (F.map Qa1)
theorem QlO (p : Pc) : ∀ (a r t : List Lg), Qa8 p r (a ++ t) = Qa8 p r a ++ Qa8 p (r ++ a) t
 | [], r, t => by simp [Qa8]
 | x :: a, r, t => by
  simp only [List.cons_append, Qa8, QlO p a (r ++ [x]) t, List.append_assoc, List.nil_append]
theorem QiK (p : Pc) : ∀ (t r : List Lg), (Qa8 p r t).length ≤ 4 * t.length
 | [], r => by simp [Qa8]
 | x :: t, r => by
  have := QiK p t (r ++ [x])
  have := Qs6 p r x
  simp only [Qa8, List.length_append, List.length_map, List.length_cons]
  omega
theorem Qqo (p : Pc) (q : List Lg) (x : Lg) : Qa8 p [] (q ++ [x]) = Qa8 p [] q ++ (legE p q x).map (fun e => (e, wLeg ++ Lib.itoa (q.length : Int))) := by
 rw [QlO]
 simp [Qa8]
theorem Qpj {fr days d : Int} : ∀ {k : Nat}, d ∈ upto fr days k → fr ≤ d ∧ d < fr + k
 | 0, h => by cases h
 | k + 1, h => by
  simp only [upto, List.mem_append] at h
  rcases h with h | h
  ·have := Qpj h; omega
  ·split at h
   ·have : d = fr + k := by simpa using h
    omega
   ·cases h
theorem Qjq {fr to days d : Int} (h : d ∈ QaA fr to days) : 0 ≤ d ∧ d < 36525 ∧ hasF fr to days d = true := by
 unfold QaA at h
 split at h
 ·rename_i h0
  obtain ⟨a0, a1, a2, a3, a4, a5⟩ := Qjz h0
  have hm := Qpj h
  refine ⟨by omega, by omega, ?_⟩
  have on : ∀ {k : Nat}, d ∈ upto fr days k → onF days d = true := by
   intro k
   induction k with
   | zero => intro h; cases h
   | succ k ih =>
    intro h
    simp only [upto, List.mem_append] at h
    rcases h with h | h
    ·exact ih h
    ·split at h
     ·have : d = fr + k := by simpa using h
      rw [this]; assumption
     ·cases h
  unfold hasF
  rw [decT h0, decT (by omega), decT (by omega), on h]
  rfl
 ·cases h
theorem QnT (fr to days : Int) : (QaA fr to days).length ≤ 800 := by
 unfold QaA
 split
 ·rename_i h0
  obtain ⟨a0, a1, a2, a3, a4, a5⟩ := Qjz h0
  have := QmO fr days (to + 1 - fr).toNat
  omega
 ·simp
theorem Qso (p : Pc) (f : Fl) (d : Int) : ordG true 0 ((Qbp p f d).map fun x => (x.dep, x.arr)) = ordF p f.legs d := by
 unfold ordF Qbp
 rw [List.map_map]
 rfl
theorem Qu1 (n jR : Nat) (ja : Bool) (aair2 : List (List CV)) (jb : Bool) (adis4 : List (List CV)) (bcar5 : List UInt8) (jg jd jf jc : Int) (je : Bool) (bleg12 : List (List CV)) (jI : Int) (s370 : List UInt8) (wA wz : CV) (jE : Bool × List (List CV)) (c363 : List CV) (j1 j0 j3 j4 j9 wb wu wK wq wJ wS wX wP wO wW wN wY wV wR wU : CV) (F : List Ft) (hF : F.length ≤ 1000) (d a : Bool) (h1 : C lb n Qct [j3] = some (.bool d)) (h2 : C lb n Qct [j4] = some (.bool a)) :
  Qew lb n jR ja aair2 jb adis4 bcar5 jg jd jf jc je bleg12 jI s370 wA wz jE c363 j1 j0 j3 j4 j9 wb wu wK wq wJ wS wX wP wO wW wN wY wV wR wU F.isEmpty (F.map Qa1) = Qbs lb n jR ja aair2 jb adis4 bcar5 jg jd jf jc je bleg12 jE (F ++ if d || a then [(2, wLeg ++ s370)] else []).isEmpty ((F ++ if d || a then [(2, wLeg ++ s370)] else []).map Qa1) (IntKind.wrap .i64 (jI + 1)) := by
 rw [Ql9, h1, h2]
 simp only [QaB, QaD, QaI, QaR, QaM, QaW, QaV, get0, get1, get2, get3, QaE, cond_true, cond_false, List.length_cons, List.length_nil, Nat.zero_add, Nat.reduceAdd, Nat.reduceBEq, beq_self_eq_true, Qas, Qar]
 rw [QlX]
 exact Qdl (enc := Qa1) (d || a) F (2, wLeg ++ s370) 24 (by decide) (by omega) (fun b l => Qbs lb n jR ja aair2 jb adis4 bcar5 jg jd jf jc je bleg12 jE b l (IntKind.wrap .i64 (jI + 1)))
theorem QuF (n jR : Nat) (ja : Bool) (aair2 : List (List CV)) (jb : Bool) (adis4 : List (List CV)) (bcar5 : List UInt8) (jg jd jf jc : Int) (je : Bool) (bleg12 : List (List CV)) (jI : Int) (s370 : List UInt8) (wA wz : CV) (jE : Bool × List (List CV)) (c363 : List CV) (j1 j0 j3 j4 j9 wb wu wK wq wJ wS wX wP wO wW wN wY wV wR wU : CV) (F : List Ft) (hF : F.length ≤ 900) (b d a : Bool) (h0 : C lb n Qa5 [.list je bleg12, .int .i64 jI] = some (.bool b)) (h1 : C lb n Qct [j3] = some (.bool d)) (h2 : C lb n Qct [j4] = some (.bool a)) :
  Qdy lb n jR ja aair2 jb adis4 bcar5 jg jd jf jc je bleg12 jI s370 wA wz jE c363 j1 j0 j3 j4 j9 wb wu wK wq wJ wS wX wP wO wW wN wY wV wR wU F.isEmpty (F.map Qa1) = Qbs lb n jR ja aair2 jb adis4 bcar5 jg jd jf jc je bleg12 jE ((F ++ if b then [(15, wLeg ++ s370)] else []) ++ if d || a then [(2, wLeg ++ s370)] else []).isEmpty
   (((F ++ if b then [(15, wLeg ++ s370)] else []) ++ if d || a then [(2, wLeg ++ s370)] else []).map Qa1) (IntKind.wrap .i64 (jI + 1)) := by
 rw [QlK, h0]
 simp only [QaB, QaD, QaI, QaR, QaM, QaW, QaV, get0, get1, get2, get3, QaE, cond_true, cond_false, List.length_cons, List.length_nil, Nat.zero_add, Nat.reduceAdd, Nat.reduceBEq, beq_self_eq_true, Qas, Qar]
 refine (Qdl (enc := Qa1) b F (15, wLeg ++ s370) 24 (by decide) (by omega) _).trans ?_
 have hl : (F ++ if b then [(15, wLeg ++ s370)] else []).length ≤ 1000 := by rw [List.length_append]; have := QuC b (15, wLeg ++ s370); omega
 generalize (F ++ if b then [(15, wLeg ++ s370)] else []) = F1 at hl
 apply Qu1
 ·exact hl
 ·exact h1
 ·exact h2
theorem Qu2 (n jR : Nat) (ja : Bool) (aair2 : List (List CV)) (jb : Bool) (adis4 : List (List CV)) (bcar5 : List UInt8) (jg jd jf jc : Int) (je : Bool) (bleg12 : List (List CV)) (jI : Int) (s370 : List UInt8) (jE : Bool × List (List CV)) (c363 : List CV) (j1 j0 j3 j4 j9 wb : CV) (F : List Ft) (hF : F.length ≤ 800) (sa sb : Bs) (aps : List Ap) (b d a : Bool)
  (h3 : C lb n Qa9 [.agg [.list ja aair2, .list jb adis4], j1] = some (Qey sa aps)) (h4 : C lb n Qa9 [.agg [.list ja aair2, .list jb adis4], j0] = some (Qey sb aps))
  (h0 : C lb n Qa5 [.list je bleg12, .int .i64 jI] = some (.bool b)) (h1 : C lb n Qct [j3] = some (.bool d)) (h2 : C lb n Qct [j4] = some (.bool a)) :
  QeD lb n jR ja aair2 jb adis4 bcar5 jg jd jf jc je bleg12 jI s370 jE c363 j1 j0 j3 j4 j9 wb F.isEmpty (F.map Qa1) = Qbs lb n jR ja aair2 jb adis4 bcar5 jg jd jf jc je bleg12 jE
   (((F ++ if (QbF sa aps).isSome && (QbF sb aps).isSome then [] else [(14, wLeg ++ s370)]) ++ if b then [(15, wLeg ++ s370)] else []) ++ if d || a then [(2, wLeg ++ s370)] else []).isEmpty
   ((((F ++ if (QbF sa aps).isSome && (QbF sb aps).isSome then [] else [(14, wLeg ++ s370)]) ++ if b then [(15, wLeg ++ s370)] else []) ++ if d || a then [(2, wLeg ++ s370)] else []).map Qa1) (IntKind.wrap .i64 (jI + 1)) := by
 rw [QlQ]
 refine stO _ h3 (stO _ rfl (stO _ rfl (stO _ rfl (stO _ rfl (stO _ rfl (stC rfl (stO _ rfl (stO _ rfl (stO _ rfl (stO _ rfl (stO _ rfl (stO _ h4 (stO _ rfl (stO _ rfl (stO _ rfl (stO _ rfl (stO _ rfl (stC rfl (stO _ rfl (stO _ rfl (stO _ rfl (stO _ rfl (stO _ rfl (stO _ rfl ?_))))))))))))))))))))))))
 refine (QsI _ _ _ _).trans ?_
 refine (Qsb (enc := Qa1) ((QbF sa aps).isSome && (QbF sb aps).isSome) F (14, wLeg ++ s370) 24 (by decide) (by omega) _).trans ?_
 have hl : (F ++ if (QbF sa aps).isSome && (QbF sb aps).isSome then [] else [(14, wLeg ++ s370)]).length ≤ 900 := by rw [List.length_append]; have := Qsw ((QbF sa aps).isSome && (QbF sb aps).isSome) (14, wLeg ++ s370); omega
 generalize (F ++ if (QbF sa aps).isSome && (QbF sb aps).isSome then [] else [(14, wLeg ++ s370)]) = F1 at hl
 apply QuF
 ·exact hl
 ·exact h0
 ·exact h1
 ·exact h2
theorem QsK (p : Pc) (q : List Lg) (x : Lg) (s : Bs) : (legE p q x).map (fun e => (e, s)) =
  (((if QeJ x.eq 3 3 then [] else [(5, s)]) ++ (if (QbF x.fro p.aps).isSome && (QbF x.to p.aps).isSome then [] else [(14, s)])) ++ (if brk q x then [(15, s)] else [])) ++ (if !okM x.dep || !okM x.arr then [((2, s) : Ft)] else []) := by
 unfold legE QjZ
 cases QeJ x.eq 3 3 <;> cases (QbF x.fro p.aps).isSome && (QbF x.to p.aps).isSome <;> cases brk q x <;> cases okM x.dep <;> cases okM x.arr <;> rfl
theorem QtG (d : Int) (f : Fl) (p : Pc) (hp : QbP p) (hl : f.legs.length ≤ 1000) (h : 0 ≤ d ∧ d < 36525) : Evt fun n => (C lb n Qbi [pcv p, flcv f, .int .i64 d] = some (.list f.legs.isEmpty ((Qbp p f d).map dtcv)) ∧
  C lb n Qa2 [.list f.legs.isEmpty ((Qbp p f d).map dtcv)] = some (.bool (ordF p f.legs d))) ∧ C lb n QfF [.int .i64 d] = some (.str (QoM d)) := by
 refine Evt.and (Evt.and (QjM lb p hp f hl d) ?_) (Qop lb d h.1 h.2)
 have := Qmp lb f.legs.isEmpty (Qbp p f d) (by unfold Qbp; rw [List.length_map]; exact hl)
 rw [Qso] at this
 exact this
theorem Qn5 (d : Int) : (QoM d).length = 10 := rfl
theorem QtJ (p : Pc) (hp : QbP p) (f : Fl) (hl : f.legs.length ≤ 1000) (wH : Int) (jE : Bool × List (List CV)) (b0 : Bool) (D : List Int) (hD : D.length ≤ 800) (hd : ∀ d ∈ D, 0 ≤ d ∧ d < 36525) :
  Evt fun n => QcA lb n n p.an (p.aps.map apcv) p.dn (p.dis.map dicv) f.car f.num f.fr f.to f.days f.ln (f.legs.map lgcv) wH (.list b0 (dcv D)) jE true [] 0 = some (QcC (Qc6 p f.legs D)) := by
 refine Evt.diag (m := D.length) (QcD (enc := ienc) (l := D) (by omega) (P := fun q t n k => QcA lb n k p.an (p.aps.map apcv) p.dn (p.dis.map dicv) f.car f.num f.fr f.to f.days f.ln (f.legs.map lgcv) wH (.list b0 (dcv D)) jE true [] (q.length : Int) = some (QcC (Qc6 p f.legs t))) ?_ ?_ D [] rfl)
 ·refine .all fun n k => ?_
  rw [QcQ]
  refine stT rfl (stO _ rfl (stF (decF (by simp [dcv])) ?_))
  rw [QeN]
  rfl
 ·intro q d t hq hlt hat hw hev
  refine Evt.imp2 hev (QtG lb d f p hp hl (hd d (by rw [← hq]; simp))) fun n hn hc k hk => ?_
  have hn := hn k hk
  obtain ⟨⟨c1, c2⟩, c3⟩ := hc
  have hat : atL (dcv D) (q.length : Int) = some [.int .i64 d] := hat
  have hlt : (q.length : Int) < ((dcv D).length : Int) := hlt
  rw [QcQ]
  refine stT rfl (stO _ rfl (stT (decT hlt) (stO _ rfl (stO _ hat (stC rfl (stO _ rfl (stO _ c1 (stO _ c2 (stO _ rfl ?_)))))))))
  unfold Qc6
  cases ho : ordF p f.legs d with
  | true =>
   rw [hw]
   exact hn
  | false =>
   refine stT rfl (stO _ rfl (stO _ hat (stC rfl (stO _ rfl (stO _ c3 (stO _ rfl (stC (decT (by rw [Qn5]; decide)) (stC rfl ?_))))))))
   obtain ⟨k, rfl⟩ : ∃ m, k = m + 1 := ⟨k - 1, by omega⟩
   rw [QcQ]
   refine stF rfl ?_
   rw [QeN]
   rfl
theorem QtS (p : Pc) (hp : QbP p) (f : Fl) (hl : f.legs.length ≤ 6) (hx : ∀ x ∈ f.legs, x.eq.length ≤ 281474976710656) (jE : Bool × List (List CV)) (H : List Ft) (hH : H.length ≤ 10) :
  Evt fun n => Qbs lb n n p.an (p.aps.map apcv) p.dn (p.dis.map dicv) f.car f.num f.fr f.to f.days f.ln (f.legs.map lgcv) jE H.isEmpty (H.map Qa1) 0 = some (QcC (if H ++ Qa8 p [] f.legs = [] then Qc6 p f.legs (QaA f.fr f.to f.days) else H ++ Qa8 p [] f.legs)) := by
 have key := QcD (enc := lgcv) (l := f.legs) (by omega) (P := fun q t n k => Qbs lb n k p.an (p.aps.map apcv) p.dn (p.dis.map dicv) f.car f.num f.fr f.to f.days f.ln (f.legs.map lgcv) jE (H ++ Qa8 p [] q).isEmpty ((H ++ Qa8 p [] q).map Qa1) (q.length : Int) =
   some (QcC (if H ++ Qa8 p [] f.legs = [] then Qc6 p f.legs (QaA f.fr f.to f.days) else H ++ Qa8 p [] f.legs))) (by
  refine Evt.imp2 (Evt.and (Qj5 lb f.fr f.to f.days) (Evt.ge 1)) (QtJ lb p hp f (by omega) (f.legs.length : Int) jE (QaA f.fr f.to f.days).isEmpty (QaA f.fr f.to f.days) (QnT _ _ _) fun d hd => ⟨(Qjq hd).1, (Qjq hd).2.1⟩) fun n h1 h2 k => ?_
  rw [Qf0]
  refine stF (decF (by simp)) ?_
  rw [Qmh]
  refine stO _ h1.1 ?_
  generalize H ++ Qa8 p [] f.legs = F
  cases F with
  | nil =>
   rw [if_pos rfl]
   exact h2
  | cons e F =>
   rw [if_neg (by simp)]
   obtain ⟨m, hm⟩ : ∃ m, n = m + 1 := ⟨n - 1, by omega⟩
   have : ∀ k', k' = n → QcA lb n k' p.an (p.aps.map apcv) p.dn (p.dis.map dicv) f.car f.num f.fr f.to f.days f.ln (f.legs.map lgcv) (f.legs.length : Int) (.list (QaA f.fr f.to f.days).isEmpty (dcv (QaA f.fr f.to f.days))) jE (e :: F).isEmpty ((e :: F).map Qa1) 0 = some (QcC (e :: F)) := by
    intro k' ek
    rw [show k' = m + 1 by omega, QcQ]
    refine stF (beqF (by simp; omega)) ?_
    rw [QeN]
    rfl
   exact this n rfl) (by
  intro q x t hq hlt hat hw hev
  have hll : f.legs.length = q.length + (t.length + 1) := by rw [← hq]; simp
  have hil := QdI (z := (q.length : Int)) (by omega) (by omega)
  have hF : (H ++ Qa8 p [] q).length ≤ 100 := by rw [List.length_append]; have := QiK p q []; omega
  refine Evt.imp2 hev (Evt.imp2 (Evt.imp2 (Evt.imp2 (QgC lb p x.fro hp.1) (QgC lb p x.to hp.1) fun n a b => And.intro a b) (Evt.imp2 (Qj1 lb x.eq 3 3 (by have := hx x (by rw [← hq]; simp); omega)) (Qri lb f.ln f.legs q t x hq (by omega)) fun n a b => And.intro a b) fun n a b => And.intro a b)
   (Evt.imp2 (Evt.imp2 (QkI lb x.dep) (QkI lb x.arr) fun n a b => And.intro a b) (Qdq lb (q.length : Int) (by omega) (by omega)) fun n a b => And.intro a b) fun n a b => And.intro a b) fun n hn hc k hk => ?_
  obtain ⟨⟨⟨a1, a2⟩, a3, a4⟩, ⟨a5, a6⟩, a7⟩ := hc
  have hn := hn k hk
  rw [Qf0]
  refine stT (decT hlt) (stO _ hat (stC rfl (stO _ rfl (stO _ rfl (stO _ rfl (stO _ rfl (stO _ rfl (stO _ a7 (stO _ rfl (stC (decT (by simp; omega)) (stO _ a3 (stO _ rfl ?_))))))))))))
  refine (Qsb (enc := Qa1) (QeJ x.eq 3 3) (H ++ Qa8 p [] q) (5, wLeg ++ Lib.itoa (q.length : Int)) 24 (by decide) (by omega) _).trans ?_
  refine (Qu2 lb (hF := by rw [List.length_append]; have := Qsw (QeJ x.eq 3 3) (5, wLeg ++ Lib.itoa (q.length : Int)); omega) (h3 := a1) (h4 := a2) (h0 := a4) (h1 := a5) (h2 := a6) ..).trans ?_
  rw [Qqo, ← List.append_assoc, QsK, ← hw] at hn
  simp only [List.append_assoc] at hn ⊢
  exact hn) f.legs [] rfl
 refine (Evt.diag key).mono fun n hn => ?_
 simpa [Qa8] using hn
theorem QsZ (f : Fl) (h : ¬ (f.legs.length < 1 ∨ f.legs.length > 6)) : Qft f = QeP f := by
 unfold Qft
 rw [decF (by omega), decF (by omega)]
 simp
theorem Qoq (p : Pc) (hp : QbP p) (f : Fl) (hc : f.car.length ≤ 281474976710656) (hx : ∀ x ∈ f.legs, x.eq.length ≤ 281474976710656) : Ret lb Qah [pcv p, flcv f] (QcC (QaZ p f)) := by
 refine .top rfl (.eq (fun n => by rw [QoO]) ?_)
 refine .call (Qpt lb f hc) ?_
 simp only [QaM, QaB, List.length_map]
 unfold QaZ
 by_cases h : f.legs.length < 1 ∨ f.legs.length > 6
 ·rw [if_pos h]
  refine .all fun n => ?_
  refine (QlX _ _ _ _).trans (stT (by rw [Bool.or_eq_true, decide_eq_true_eq, decide_eq_true_eq]; omega) rfl)
 ·rw [if_neg h]
  refine (QtS lb p hp f (by omega) hx ((Qft f).isEmpty, (Qft f).map Qa1) (QeP f) (by have := QjI f; omega)).mono fun n hn => ?_
  refine stF (decF (by omega)) (stF (decF (by omega)) ?_)
  rw [QsZ f h] at hn ⊢
  exact hn
end Go.Proofs
set_option linter.unusedSimpArgs false
namespace Go.Proofs
open Go.Am
variable (lb : Nat)
end Go.Proofs
