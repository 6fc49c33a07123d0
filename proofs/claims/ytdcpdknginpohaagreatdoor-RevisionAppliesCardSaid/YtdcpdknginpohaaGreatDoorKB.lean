/- Chapter 3 on plain data: the date of a day, by the program and by its reference. Conditions: as each says. -/
import Derived.Test.YtdcpdknginpohaaGreatDoorKA
import Derived.Test.YtdcpdknginpohaaGreatDoorGb
import Derived.Test.YtdcpdknginpohaaGreatDoorRn
set_option linter.unusedSimpArgs false
namespace Go.Proofs
open Go.Am
variable (lb : Nat)
def lenF (y m : Int) : Int := if m = 2 then (if Int.tmod y 4 = 0 then 29 else 28) else if m = 4 ∨ m = 6 ∨ m = 9 ∨ m = 11 then 30 else 31
theorem QvZ (y m : Int) (h : 1 ≤ m ∧ m ≤ 12) : QiX y m = some (lenF y m) := by
 have : m = 1 ∨ m = 2 ∨ m = 3 ∨ m = 4 ∨ m = 5 ∨ m = 6 ∨ m = 7 ∨ m = 8 ∨ m = 9 ∨ m = 10 ∨ m = 11 ∨ m = 12 := by omega
 rcases this with rfl | rfl | rfl | rfl | rfl | rfl | rfl | rfl | rfl | rfl | rfl | rfl
 ·rfl
 ·unfold QiX lenF
  by_cases h : Int.tmod y 4 = 0
  ·rw [if_pos ⟨rfl, h⟩, if_pos rfl, if_pos h]
  ·rw [if_neg (fun q => h q.2), if_pos (by decide), if_pos rfl, if_neg h]
   rfl
 all_goals rfl
theorem Qmn (y m : Int) (h : 1 ≤ m ∧ m ≤ 12) : Ret lb Qei [.int .i64 y, .int .i64 m] (.int .i64 (lenF y m)) :=
 .lib (s := QiT) rfl (by
  show (QiX y m).map (CV.int .i64 ·) = _
  rw [QvZ y m h]; rfl)
theorem Qhy (y m : Int) : Ret lb QcS [.int .i64 y, .int .i64 m] (.int .i64 (lenF y m)) := by
 refine .top rfl (.eq (fun n => by rw [Qs1]) (.all fun n => ?_))
 unfold lenF
 simp only [Qpa]
 by_cases h4 : m = 4
 ·subst h4; rfl
 by_cases h6 : m = 6
 ·subst h6; rfl
 by_cases h9 : m = 9
 ·subst h9; rfl
 rw [beqF h4, cond_false, beqF h6, cond_false, beqF h9, cond_false]
 by_cases h11 : m = 11
 ·subst h11; rfl
 rw [beqF h11, cond_false]
 by_cases h2 : m = 2
 ·subst h2
  rw [beqT rfl, cond_true, if_pos rfl]
  by_cases h : Int.tmod y 4 = 0
  ·rw [beqT h, cond_true, if_pos h]
  ·rw [beqF h, cond_false, if_neg h]
 ·rw [beqF h2, cond_false, if_neg h2, if_neg (by omega)]
theorem QdA (y m : Int) : 28 ≤ lenF y m ∧ lenF y m ≤ 31 := by
 unfold lenF
 split
 ·split <;> omega
 ·split <;> omega
def Qa5 (y : Int) : Int := 365 * (y - 2000) + Int.tdiv (y - 2000 + 3) 4
theorem Qic (y : Int) (h : 2000 ≤ y ∧ y ≤ 2200) : Ret lb QeT [.int .i64 y] (.int .i64 (Qa5 y)) := by
 refine .top rfl (.eq (fun n => by rw [Qoe]) (.of ?_))
 have h1 : 0 ≤ Int.tdiv (y - 2000 + 3) 4 := Int.tdiv_nonneg (by omega) (by omega)
 have h2 : Int.tdiv (y - 2000 + 3) 4 ≤ 300 := by rw [Int.tdiv_eq_ediv_of_nonneg (by omega)]; omega
 rw [Qaz (x := y - 2000) (by omega) (by omega), Qaz (x := 365 * (y - 2000)) (by omega) (by omega), Qaz (x := y - 2000 + 3) (by omega) (by omega), Qaz (x := Int.tdiv (y - 2000 + 3) 4) (by omega) (by omega), Qaz (by omega) (by omega)]
 rfl
theorem QkA (y : Int) (h : 2000 ≤ y) : Qa5 (y + 1) = Qa5 y + (if Int.tmod y 4 = 0 then 366 else 365) := by
 unfold Qa5
 rw [Int.tdiv_eq_ediv_of_nonneg (by omega), Int.tdiv_eq_ediv_of_nonneg (by omega), Int.tmod_eq_emod_of_nonneg (by omega)]
 split <;> omega
def QbV (y : Int) : Nat → Int → Int → (Int × Int × Int) ⊕ Int
 | 0, _, rest => .inr rest
 | k + 1, m, rest => if rest < lenF y (m + 1) then .inl (y, m + 1, rest + 1) else QbV y k (m + 1) (rest - lenF y (m + 1))
def sumL (y : Int) : Nat → Int → Int
 | 0, _ => 0
 | k + 1, m => lenF y (m + 1) + sumL y k (m + 1)
theorem Qoo (y : Int) : ∀ (k : Nat) (m : Int), 0 ≤ sumL y k m
 | 0, _ => by simp [sumL]
 | k + 1, m => by
  have := Qoo y k (m + 1)
  have := QdA y (m + 1)
  simp only [sumL]
  omega
theorem Qr4 (y : Int) : sumL y 12 0 = (if Int.tmod y 4 = 0 then 366 else 365) := by
 have e1 : lenF y (0 + 1) = 31 := rfl
 have e2 : lenF y (0 + 1 + 1) = if Int.tmod y 4 = 0 then 29 else 28 := rfl
 have e3 : lenF y (0 + 1 + 1 + 1) = 31 := rfl
 have e4 : lenF y (0 + 1 + 1 + 1 + 1) = 30 := rfl
 have e5 : lenF y (0 + 1 + 1 + 1 + 1 + 1) = 31 := rfl
 have e6 : lenF y (0 + 1 + 1 + 1 + 1 + 1 + 1) = 30 := rfl
 have e7 : lenF y (0 + 1 + 1 + 1 + 1 + 1 + 1 + 1) = 31 := rfl
 have e8 : lenF y (0 + 1 + 1 + 1 + 1 + 1 + 1 + 1 + 1) = 31 := rfl
 have e9 : lenF y (0 + 1 + 1 + 1 + 1 + 1 + 1 + 1 + 1 + 1) = 30 := rfl
 have e10 : lenF y (0 + 1 + 1 + 1 + 1 + 1 + 1 + 1 + 1 + 1 + 1) = 31 := rfl
 have e11 : lenF y (0 + 1 + 1 + 1 + 1 + 1 + 1 + 1 + 1 + 1 + 1 + 1) = 30 := rfl
 have e12 : lenF y (0 + 1 + 1 + 1 + 1 + 1 + 1 + 1 + 1 + 1 + 1 + 1 + 1) = 31 := rfl
 simp only [sumL, e1, e2, e3, e4, e5, e6, e7, e8, e9, e10, e11, e12]
 split <;> omega
theorem Qkl (y : Int) : ∀ (k : Nat) (m rest : Int), 0 ≤ rest → (∀ t, QbV y k m rest = .inl t → rest < sumL y k m) ∧ (∀ r, QbV y k m rest = .inr r → r = rest - sumL y k m ∧ 0 ≤ r)
 | 0, m, rest, h => by
  refine ⟨fun t q => (by cases q), fun r q => ?_⟩
  cases q
  exact ⟨by simp [sumL], h⟩
 | k + 1, m, rest, h => by
  have hr := QdA y (m + 1)
  have hn := Qoo y k (m + 1)
  by_cases c : rest < lenF y (m + 1)
  ·simp only [QbV, if_pos c, sumL]
   exact ⟨fun t q => (by omega), fun r q => (by cases q)⟩
  ·simp only [QbV, if_neg c, sumL]
   have ih := Qkl y k (m + 1) (rest - lenF y (m + 1)) (by omega)
   refine ⟨fun t q => ?_, fun r q => ?_⟩
   ·have := ih.1 t q; omega
   ·have := ih.2 r q; omega
theorem QoE (y rest : Int) (h : rest ≥ (if Int.tmod y 4 = 0 then 366 else 365)) : QbV y 12 0 rest = .inr (rest - (if Int.tmod y 4 = 0 then 366 else 365)) := by
 have h0 : 0 ≤ rest := by split at h <;> omega
 have hs := Qkl y 12 0 rest h0
 rw [Qr4] at hs
 cases e : QbV y 12 0 rest with
 | inl t => have := hs.1 t e; omega
 | inr r => rw [(hs.2 r e).1]
theorem Qop (y rest : Int) (h0 : 0 ≤ rest) (h : rest < (if Int.tmod y 4 = 0 then 366 else 365)) : ∃ t, QbV y 12 0 rest = .inl t := by
 have hs := Qkl y 12 0 rest h0
 rw [Qr4] at hs
 cases e : QbV y 12 0 rest with
 | inl t => exact ⟨t, rfl⟩
 | inr r => have := hs.2 r e; omega
theorem Qor (y : Int) : ∀ (k : Nat) (m rest : Int), 0 ≤ rest → (∀ t, QbV y k m rest = .inl t → t.1 = y ∧ m + 1 ≤ t.2.1 ∧ t.2.1 ≤ m + k ∧ 1 ≤ t.2.2 ∧ t.2.2 ≤ lenF y t.2.1) ∧ (∀ r, QbV y k m rest = .inr r → 0 ≤ r ∧ rest ≥ r + 28 * k)
 | 0, m, rest, h => by
  refine ⟨fun t q => (by cases q), fun r q => ?_⟩
  cases q
  exact ⟨h, by simp⟩
 | k + 1, m, rest, h => by
  have hr := QdA y (m + 1)
  by_cases c : rest < lenF y (m + 1)
  ·simp only [QbV, if_pos c]
   refine ⟨fun t q => ?_, fun r q => by cases q⟩
   cases q
   simp only
   refine ⟨trivial, by omega, by omega, by omega, by omega⟩
  ·simp only [QbV, if_neg c]
   have ih := Qor y k (m + 1) (rest - lenF y (m + 1)) (by omega)
   refine ⟨fun t q => ?_, fun r q => ?_⟩
   ·have := ih.1 t q
    refine ⟨this.1, by omega, by omega, this.2.2.2⟩
   ·have := ih.2 r q
    refine ⟨this.1, by omega⟩
def QkW (D Y : Int) : Prop := 2000 ≤ Y ∧ Y ≤ 2099 ∧ Qa5 Y ≤ D ∧ D < Qa5 (Y + 1)
theorem QoS {a b : Int} (ha : 2000 ≤ a) (h : a ≤ b) : Qa5 a ≤ Qa5 b := by
 unfold Qa5
 rw [Int.tdiv_eq_ediv_of_nonneg (by omega), Int.tdiv_eq_ediv_of_nonneg (by omega)]
 omega
theorem Qqi {D a b : Int} (ha : QkW D a) (hb : QkW D b) : a = b := by
 rcases Int.lt_trichotomy a b with h | h | h
 ·have := QoS (a := a + 1) (b := b) (by have := ha.1; omega) (by omega)
  have := ha.2.2.2; have := hb.2.2.1; omega
 ·exact h
 ·have := QoS (a := b + 1) (b := a) (by have := hb.1; omega) (by omega)
  have := hb.2.2.2; have := ha.2.2.1; omega
def Qs5 (D : Int) : Nat → Int → Int
 | 0, y => y
 | k + 1, y => if Qa5 (y + 1) ≤ D then Qs5 D k (y + 1) else y
theorem Qt9 {D : Int} (hD : D < 36525) : ∀ (k : Nat) (y : Int), 2000 ≤ y → y + k = 2099 → Qa5 y ≤ D → QkW D (Qs5 D k y)
 | 0, y, h0, h, h1 => by
  have : y = 2099 := by omega
  subst this
  exact ⟨by show (2000 : Int) ≤ 2099; omega, by show (2099 : Int) ≤ 2099; omega, h1, by show D < Qa5 2100; rw [show Qa5 2100 = 36525 by decide]; exact hD⟩
 | k + 1, y, h0, h, h1 => by
  unfold Qs5
  split
  ·exact Qt9 hD k (y + 1) (by omega) (by omega) (by assumption)
  ·exact ⟨h0, by omega, h1, by omega⟩
def Qgc (D : Int) : Int := Qs5 D 99 2000
theorem QlH {D : Int} (h0 : 0 ≤ D) (hD : D < 36525) : QkW D (Qgc D) := Qt9 hD 99 2000 (by omega) (by omega) (by rw [show Qa5 2000 = 0 by decide]; exact h0)
def Qdr (D : Int) : Int × Int × Int := match QbV (Qgc D) 12 0 (D - Qa5 (Qgc D)) with
 | .inl t => t
 | .inr _ => (0, 0, 0)
theorem Qnr {D : Int} (h0 : 0 ≤ D) (hD : D < 36525) : QbV (Qgc D) 12 0 (D - Qa5 (Qgc D)) = .inl (Qdr D) := by
 have hy := QlH h0 hD
 obtain ⟨t, ht⟩ := Qop (Qgc D) (D - Qa5 (Qgc D)) (by have := hy.2.2.1; omega) (by have := hy.2.2.2; rw [QkA _ hy.1] at this; omega)
 unfold Qdr
 rw [ht]
theorem QoB {D : Int} (h0 : 0 ≤ D) (hD : D < 36525) : 2000 ≤ (Qdr D).1 ∧ (Qdr D).1 ≤ 2099 ∧ 1 ≤ (Qdr D).2.1 ∧ (Qdr D).2.1 ≤ 12 ∧ 1 ≤ (Qdr D).2.2 ∧ (Qdr D).2.2 ≤ 31 := by
 have hy := QlH h0 hD
 have h := (Qor (Qgc D) 12 0 (D - Qa5 (Qgc D)) (by have := hy.2.2.1; omega)).1 _ (Qnr h0 hD)
 have := QdA (Qgc D) (Qdr D).2.1
 obtain ⟨h1, h2, h3, h4, h5⟩ := h
 have := hy.1; have := hy.2.1
 refine ⟨by omega, by omega, by omega, by omega, by omega, by omega⟩
def tri (t : Int × Int × Int) : CV := .tup [.int .i64 t.1, .int .i64 t.2.1, .int .i64 t.2.2]
theorem QoJ (D Y : Int) (yN : CV) (kg : Int) : ∀ (k m : Nat) (rest : Int), m + k = 12 → 0 ≤ rest → rest ≤ 1000 → ∀ t, QbV Y k (m : Int) rest = .inl t →
  Evt fun n => ∀ j, k < j → QeJ lb n j D Y yN kg rest (m : Int) = some (tri t)
 | 0, m, rest, h, h0, h1, t, q => by cases q
 | k + 1, m, rest, h, h0, h1, t, q => by
  have hr := QdA Y ((m : Int) + 1)
  have hw : IntKind.wrap .i64 ((m : Int) + 1) = (m : Int) + 1 := Qaz (by omega) (by omega)
  have hlen := Qmn lb Y ((m : Int) + 1) ⟨by omega, by omega⟩
  by_cases c : rest < lenF Y ((m : Int) + 1)
  ·simp only [QbV, if_pos c] at q
   cases q
   refine hlen.mono fun n hn j hj => ?_
   obtain ⟨j, rfl⟩ : ∃ m, j = m + 1 := ⟨j - 1, by omega⟩
   rw [Qgv, decT (by omega), cond_true, hw, hn]
   simp only [QaF, QaD, QaK, Qa3, Qa0, Qa6, Qa7, get0, get1, get2, get3, QaM, cond_true, cond_false, List.length_cons, List.length_nil, Nat.zero_add, Nat.reduceAdd, Nat.reduceBEq, beq_self_eq_true, Qay, Qav]
   rw [decT c, cond_true, Qaz (x := rest + 1) (by omega) (by omega)]
   rfl
  ·simp only [QbV, if_neg c] at q
   refine Evt.imp2 hlen (QoJ D Y yN kg k (m + 1) (rest - lenF Y ((m : Int) + 1)) (by omega) (by omega) (by omega) t (by exact_mod_cast q)) fun n hn hi j hj => ?_
   obtain ⟨j, rfl⟩ : ∃ m, j = m + 1 := ⟨j - 1, by omega⟩
   rw [Qgv, decT (by omega), cond_true, hw, hn]
   simp only [QaF, QaD, QaK, Qa3, Qa0, Qa6, Qa7, get0, get1, get2, get3, QaM, cond_true, cond_false, List.length_cons, List.length_nil, Nat.zero_add, Nat.reduceAdd, Nat.reduceBEq, beq_self_eq_true, Qay, Qav]
   rw [decF c, cond_false, Qaz (x := rest - lenF Y ((m : Int) + 1)) (by omega) (by omega)]
   exact_mod_cast hi j (by omega)
theorem QqF {D : Int} (h0 : 0 ≤ D) (hD : D < 36525) : ∀ (k : Nat) (y : Int), 2000 ≤ y → y + k = 2099 → Qa5 y ≤ D → Evt fun n => ∀ j, k < j → QeP lb n j D y = some (tri (Qdr D))
 | k, y, h1, h2, h3 => by
  have hf := Qic lb (y + 1) ⟨by omega, by omega⟩
  have hw : IntKind.wrap .i64 (y + 1) = y + 1 := Qaz (by omega) (by omega)
  by_cases c : Qa5 (y + 1) ≤ D
  ·match k, h2 with
   | 0, h2 =>
    exfalso
    have : y = 2099 := by omega
    subst this
    rw [show Qa5 (2099 + 1) = 36525 by decide] at c
    omega
   | k + 1, h2 =>
    refine Evt.imp2 hf (QqF h0 hD k (y + 1) (by omega) (by omega) c) fun n hn hi j hj => ?_
    obtain ⟨j, rfl⟩ : ∃ m, j = m + 1 := ⟨j - 1, by omega⟩
    rw [Qgw, hw, hn]
    simp only [QaF, QaD, QaK, Qa3, Qa0, Qa6, Qa7, get0, get1, get2, get3, QaM, cond_true, cond_false, List.length_cons, List.length_nil, Nat.zero_add, Nat.reduceAdd, Nat.reduceBEq, beq_self_eq_true, Qay, Qav]
    rw [decT c, cond_true]
    exact hi j (by omega)
  ·have hY : QkW D y := ⟨h1, by omega, h3, by omega⟩
   have hy : y = Qgc D := Qqi hY (QlH h0 hD)
   have hm := QoJ lb D y (.int .i64 (Qa5 y)) (Qa5 y) 12 0 (D - Qa5 y) rfl (by omega) (by have := hY.2.2.2; rw [QkA y h1] at this; split at this <;> omega) (Qdr D) (by rw [hy]; exact Qnr h0 hD)
   refine Evt.imp2 (Evt.imp2 hf (Qic lb y ⟨by omega, by omega⟩) fun n a b => And.intro a b) (hm.and (Evt.ge 13)) fun n hn hi j hj => ?_
   obtain ⟨j, rfl⟩ : ∃ m, j = m + 1 := ⟨j - 1, by omega⟩
   rw [Qgw, hw, hn.1]
   simp only [QaF, QaD, QaK, Qa3, Qa0, Qa6, Qa7, get0, get1, get2, get3, QaM, cond_true, cond_false, List.length_cons, List.length_nil, Nat.zero_add, Nat.reduceAdd, Nat.reduceBEq, beq_self_eq_true, Qay, Qav]
   rw [decF c, cond_false, Qmi, hn.2]
   simp only [QaF, QaD, QaK, Qa3, Qa0, Qa6, Qa7, get0, get1, get2, get3, QaM, cond_true, cond_false, List.length_cons, List.length_nil, Nat.zero_add, Nat.reduceAdd, Nat.reduceBEq, beq_self_eq_true, Qay, Qav]
   rw [Qaz (x := D - Qa5 y) (by omega) (by have : 0 ≤ Qa5 y := (by unfold Qa5; have := Int.tdiv_nonneg (a := y - 2000 + 3) (b := 4) (by omega) (by omega); omega); omega)]
   exact hi.1 n (by omega)
theorem Qn6 (D : Int) (h0 : 0 ≤ D) (hD : D < 36525) : Ret lb QaR [.int .i64 D] (tri (Qdr D)) := by
 refine .top rfl (.eq (fun n => by rw [Qpe]) ?_)
 have q0 : 0 ≤ Int.tdiv D 366 := Int.tdiv_nonneg h0 (by decide)
 have q1 : Int.tdiv D 366 ≤ 99 := by rw [Int.tdiv_eq_ediv_of_nonneg h0]; omega
 simp only [decF (show ¬ D < 0 by omega), cond_false, decF (show ¬ D ≥ 36525 by omega), Qaz (x := Int.tdiv D 366) (by omega) (by omega), Qaz (x := 2000 + Int.tdiv D 366) (by omega) (by omega)]
 obtain ⟨k, hk⟩ := Int.eq_ofNat_of_zero_le (show 0 ≤ 2099 - (2000 + Int.tdiv D 366) by omega)
 refine Evt.diag (QqF lb h0 hD k (2000 + Int.tdiv D 366) (by omega) (by omega) ?_)
 unfold Qa5
 rw [Int.tdiv_eq_ediv_of_nonneg h0, Int.tdiv_eq_ediv_of_nonneg (by omega)]
 omega
def Qj7 (day y m : Int) (r : CV) : Prop := ∃ c, Evt fun n => ∀ k, c < k → Qf7 lb n k day y m = some r
theorem Qv5 {day y m : Int} (h : day < lenF y m) (h0 : 0 ≤ day) : Qj7 lb day y m (.tup [.int .i64 y, .int .i64 m, .int .i64 (day + 1)]) := by
 have := QdA y m
 refine ⟨0, (Qhy lb y m).mono fun n hn k hk => ?_⟩
 obtain ⟨k, rfl⟩ : ∃ m, k = m + 1 := ⟨k - 1, by omega⟩
 rw [Qgm, hn]
 simp only [QaF, QaD, QaK, Qa3, Qa0, Qa6, Qa7, get0, get1, get2, get3, QaM, cond_true, cond_false, List.length_cons, List.length_nil, Nat.zero_add, Nat.reduceAdd, Nat.reduceBEq, beq_self_eq_true, Qay, Qav]
 rw [decF (by omega), cond_false, QrE, Qaz (by omega) (by omega)]
theorem Qv4 {day y m : Int} {r : CV} (h : lenF y m ≤ day) (hd : day ≤ 100000) (hm : 1 ≤ m ∧ m < 12) (hr : Qj7 lb (day - lenF y m) y (m + 1) r) : Qj7 lb day y m r := by
 obtain ⟨c, hc⟩ := hr
 have := QdA y m
 refine ⟨c + 1, Evt.imp2 (Qhy lb y m) hc fun n hn hi k hk => ?_⟩
 obtain ⟨k, rfl⟩ : ∃ m, k = m + 1 := ⟨k - 1, by omega⟩
 rw [Qgm, hn]
 simp only [QaF, QaD, QaK, Qa3, Qa0, Qa6, Qa7, get0, get1, get2, get3, QaM, cond_true, cond_false, List.length_cons, List.length_nil, Nat.zero_add, Nat.reduceAdd, Nat.reduceBEq, beq_self_eq_true, Qay, Qav]
 rw [decT (by omega), cond_true, Qaz (x := m + 1) (by omega) (by omega), beqF (by omega), cond_false, Qaz (by omega) (by omega)]
 exact hi k (by omega)
theorem Qwi {day y : Int} {r : CV} (h : lenF y 12 ≤ day) (hd : day ≤ 100000) (hy : 2000 ≤ y ∧ y ≤ 3000) (hr : Qj7 lb (day - lenF y 12) (y + 1) 1 r) : Qj7 lb day y 12 r := by
 obtain ⟨c, hc⟩ := hr
 have := QdA y 12
 refine ⟨c + 1, Evt.imp2 (Qhy lb y 12) hc fun n hn hi k hk => ?_⟩
 obtain ⟨k, rfl⟩ : ∃ m, k = m + 1 := ⟨k - 1, by omega⟩
 rw [Qgm, hn]
 simp only [QaF, QaD, QaK, Qa3, Qa0, Qa6, Qa7, get0, get1, get2, get3, QaM, cond_true, cond_false, List.length_cons, List.length_nil, Nat.zero_add, Nat.reduceAdd, Nat.reduceBEq, beq_self_eq_true, Qay, Qav]
 rw [decT (by omega), cond_true, Qaz (x := 12 + 1) (by omega) (by omega), beqT (by omega), cond_true, Qaz (x := y + 1) (by omega) (by omega), Qaz (by omega) (by omega)]
 exact hi k (by omega)
theorem Qmt (y : Int) (hy : 2000 ≤ y ∧ y ≤ 3000) {r : CV} : ∀ (k : Nat) (m day : Int), m + (k + 1) = 12 → 0 ≤ m → 0 ≤ day → day ≤ 100000 →
  (∀ t, QbV y (k + 1) m day = .inl t → r = tri t) → (∀ q, QbV y (k + 1) m day = .inr q → Qj7 lb q (y + 1) 1 r) → Qj7 lb day y (m + 1) r
 | k, m, day, h, hm, h0, h1, hl, hr => by
  have hlr := QdA y (m + 1)
  by_cases c : day < lenF y (m + 1)
  ·simp only [QbV, if_pos c] at hl
   rw [hl _ rfl]
   exact Qv5 lb c h0
  ·simp only [QbV, if_neg c] at hl hr
   match k, h with
   | 0, h =>
    have : m + 1 = 12 := by omega
    rw [this] at c hlr hr ⊢
    exact Qwi lb (by omega) h1 hy (hr _ rfl)
   | k + 1, h => exact Qv4 lb (by omega) h1 ⟨by omega, by omega⟩ (Qmt y hy k (m + 1) (day - lenF y (m + 1)) (by omega) (by omega) (by omega) (by omega) hl hr)
theorem QoF {D : Int} (h0 : 0 ≤ D) (hD : D < 36525) : ∀ (k : Nat) (y : Int), 2000 ≤ y → y + k = 2099 → Qa5 y ≤ D → Qj7 lb (D - Qa5 y) y 1 (tri (Qdr D))
 | k, y, h1, h2, h3 => by
  have hf0 : 0 ≤ Qa5 y := by unfold Qa5; have := Int.tdiv_nonneg (a := y - 2000 + 3) (b := 4) (by omega) (by omega); omega
  have hst := QkA y h1
  refine Qmt lb y ⟨h1, by omega⟩ 11 0 (D - Qa5 y) (by omega) (by omega) (by omega) (by omega) (fun t ht => ?_) fun q hq => ?_
  ·by_cases c : Qa5 (y + 1) ≤ D
   ·rw [QoE y _ (by rw [hst] at c; omega)] at ht
    cases ht
   ·have hY : QkW D y := ⟨h1, by omega, h3, by omega⟩
    have hy : y = Qgc D := Qqi hY (QlH h0 hD)
    have := Qnr h0 hD
    rw [← hy, ht] at this
    cases this
    rfl
  ·by_cases c : Qa5 (y + 1) ≤ D
   ·rw [QoE y _ (by rw [hst] at c; omega)] at hq
    cases hq
    rw [show D - Qa5 y - (if Int.tmod y 4 = 0 then 366 else 365) = D - Qa5 (y + 1) by rw [hst]; omega]
    match k, h2 with
    | 0, h2 =>
     exfalso
     have : y = 2099 := by omega
     subst this
     rw [show Qa5 (2099 + 1) = 36525 by decide] at c
     omega
    | k + 1, h2 => exact QoF h0 hD k (y + 1) (by omega) (by omega) c
   ·obtain ⟨t, ht⟩ := Qop y (D - Qa5 y) (by omega) (by rw [hst] at c; omega)
    rw [ht] at hq
    cases hq
theorem Quz (D : Int) (h0 : 0 ≤ D) (hD : D < 36525) : Ret lb Qcy [.int .i64 D] (tri (Qdr D)) := by
 refine .top rfl (.eq (fun n => by rw [Qu2]) ?_)
 simp only [decF (show ¬ D < 0 by omega), cond_false, decF (show ¬ D ≥ 36525 by omega)]
 obtain ⟨c, hc⟩ := QoF lb h0 hD 99 2000 (by omega) (by omega) (by rw [show Qa5 2000 = 0 by decide]; exact h0)
 rw [show Qa5 2000 = 0 by decide, Int.sub_zero] at hc
 exact Evt.diag hc
def twoS (z : Int) : Bs := [UInt8.ofNat (IntKind.wrap .u8 (IntKind.wrap .i64 (48 + IntKind.wrap .i64 (Int.tdiv z 10)))).toNat, UInt8.ofNat (IntKind.wrap .u8 (IntKind.wrap .i64 (48 + Int.tmod z 10))).toNat]
theorem QzO (x : Int) : 0 ≤ IntKind.wrap .u8 x ∧ IntKind.wrap .u8 x < 256 := by
 unfold IntKind.wrap
 simp only [IntKind.bits, IntKind.signed]
 simp
 omega
theorem QrS (x y : Int) : bytesOf [[CV.int .u8 (IntKind.wrap .u8 x)], [CV.int .u8 (IntKind.wrap .u8 y)]] = some [UInt8.ofNat (IntKind.wrap .u8 x).toNat, UInt8.ofNat (IntKind.wrap .u8 y).toNat] := by
 simp only [bytesOf, QzO, and_self, if_true, Option.map_some]
theorem QeN (z : Int) : Ret lb QdJ [.int .i64 z] (.str (twoS z)) :=
 .top rfl (.all fun n => by rw [Qqa, QrS, QaF]; rfl)
theorem QhP (z : Int) : Ret lb QgB [.int .i64 z] (.str (twoS z)) :=
 .top rfl (.all fun n => by rw [Qwf, QrS, QaF]; rfl)
def QnQ (D : Int) : Bs := ((((twoS (IntKind.wrap .i64 (Int.tdiv (Qdr D).1 100)) ++ twoS (Int.tmod (Qdr D).1 100)) ++ [45]) ++ twoS (Qdr D).2.1) ++ [45]) ++ twoS (Qdr D).2.2
theorem QnB (D : Int) (h0 : 0 ≤ D) (hD : D < 36525) : Ret lb QeQ [.int .i64 D] (.str (QnQ D)) := by
 refine .top rfl (.eq (fun n => by rw [Qoc]) ?_)
 refine .call (Qn6 lb D h0 hD) ?_
 have hr := QoB h0 hD
 simp only [tri, QaF, QaD, QaK, Qa3, Qa0, Qa6, Qa7, get0, get1, get2, get3, QaM, cond_true, cond_false, List.length_cons, List.length_nil, Nat.zero_add, Nat.reduceAdd, Nat.reduceBEq, beq_self_eq_true, Qay, Qav]
 rw [show ((Qdr D).1 == 0) = false from beqF (by omega)]
 simp only [cond_false]
 refine .call (QeN lb _) (.call (QeN lb _) ?_)
 simp only [QaF, QaD, QaK, Qa3, Qa0, Qa6, Qa7, get0, get1, get2, get3, QaM, cond_true, cond_false, List.length_cons, List.length_nil, Nat.zero_add, Nat.reduceAdd, Nat.reduceBEq, beq_self_eq_true, Qay, Qav]
 refine .chk (by simp [twoS]) (.chk (by simp [twoS]) (.call (QeN lb _) ?_))
 simp only [QaF, QaD, QaK, Qa3, Qa0, Qa6, Qa7, get0, get1, get2, get3, QaM, cond_true, cond_false, List.length_cons, List.length_nil, Nat.zero_add, Nat.reduceAdd, Nat.reduceBEq, beq_self_eq_true, Qay, Qav]
 refine .chk (by simp [twoS]) (.chk (by simp [twoS]) (.call (QeN lb _) ?_))
 simp only [QaF, QaD, QaK, Qa3, Qa0, Qa6, Qa7, get0, get1, get2, get3, QaM, cond_true, cond_false, List.length_cons, List.length_nil, Nat.zero_add, Nat.reduceAdd, Nat.reduceBEq, beq_self_eq_true, Qay, Qav]
 exact .chk (by simp [twoS]) (.of rfl)
theorem QsC (D : Int) (h0 : 0 ≤ D) (hD : D < 36525) : Ret lb QhO [.int .i64 D] (.str (QnQ D)) := by
 refine .top rfl (.eq (fun n => by rw [Qub]) ?_)
 refine .call (Quz lb D h0 hD) ?_
 have hr := QoB h0 hD
 simp only [tri, QaF, QaD, QaK, Qa3, Qa0, Qa6, Qa7, get0, get1, get2, get3, QaM, cond_true, cond_false, List.length_cons, List.length_nil, Nat.zero_add, Nat.reduceAdd, Nat.reduceBEq, beq_self_eq_true, Qay, Qav]
 rw [show ((Qdr D).1 == 0) = false from beqF (by omega)]
 simp only [cond_false]
 refine .call (QhP lb _) (.call (QhP lb _) ?_)
 simp only [QaF, QaD, QaK, Qa3, Qa0, Qa6, Qa7, get0, get1, get2, get3, QaM, cond_true, cond_false, List.length_cons, List.length_nil, Nat.zero_add, Nat.reduceAdd, Nat.reduceBEq, beq_self_eq_true, Qay, Qav]
 refine .chk (by simp [twoS]) (.chk (by simp [twoS]) (.call (QhP lb _) ?_))
 simp only [QaF, QaD, QaK, Qa3, Qa0, Qa6, Qa7, get0, get1, get2, get3, QaM, cond_true, cond_false, List.length_cons, List.length_nil, Nat.zero_add, Nat.reduceAdd, Nat.reduceBEq, beq_self_eq_true, Qay, Qav]
 refine .chk (by simp [twoS]) (.chk (by simp [twoS]) (.call (QhP lb _) ?_))
 simp only [QaF, QaD, QaK, Qa3, Qa0, Qa6, Qa7, get0, get1, get2, get3, QaM, cond_true, cond_false, List.length_cons, List.length_nil, Nat.zero_add, Nat.reduceAdd, Nat.reduceBEq, beq_self_eq_true, Qay, Qav]
 exact .chk (by simp [twoS]) (.of rfl)
end Go.Proofs
set_option linter.unusedSimpArgs false
namespace Go.Proofs
open Go.Am
variable (lb : Nat)
theorem QnG {α : Type} {enc : α → List CV} (c : Bool) (F : List α) (x : α) (m : Nat) (hm : m ≤ 1000) (hF : F.length ≤ 100000) (J : Bool → List (List CV) → Option CV) :
  (bif !c then chkO (room ((F.map enc).length + 1) m) (J (F.isEmpty && false) (F.map enc ++ [enc x])) else J F.isEmpty (F.map enc)) = J (F ++ if c then [] else [x]).isEmpty ((F ++ if c then [] else [x]).map enc) := by
 cases c with
 | false => simp only [Bool.not_false, cond_true, Qa8 (n := (F.map enc).length + 1) (b := m) (by simp; omega) hm, QaM, Bool.false_eq_true, if_false, List.map_append, List.map_cons, List.map_nil, Qbr F x]
 | true => simp only [Bool.not_true, cond_false, if_true, List.append_nil]
theorem QdT {α : Type} {enc : α → List CV} (c : Bool) (F : List α) (x : α) (m : Nat) (hm : m ≤ 1000) (hF : F.length ≤ 100000) (J : Bool → List (List CV) → Option CV) :
  (bif c then chkO (room ((F.map enc).length + 1) m) (J (F.isEmpty && false) (F.map enc ++ [enc x])) else J F.isEmpty (F.map enc)) = J (F ++ if c then [x] else []).isEmpty ((F ++ if c then [x] else []).map enc) := by
 cases c with
 | true => simp only [cond_true, Qa8 (n := (F.map enc).length + 1) (b := m) (by simp; omega) hm, QaM, if_true, List.map_append, List.map_cons, List.map_nil, Qbr F x]
 | false => simp only [cond_false, Bool.false_eq_true, if_false, List.append_nil]
theorem QkI {β : Type} (c d : Bool) (x y : β) : (bif c then x else bif d then x else y) = (bif c || d then x else y) := by cases c <;> rfl
theorem Qpk {β : Type} (c d : Bool) (x y : β) : (bif !c then x else bif !d then x else y) = (bif !(c && d) then x else y) := by cases c <;> rfl
theorem Qrd {α : Type} {enc : α → List CV} (c : Bool) (x : α) (J : Bool → List (List CV) → Option CV) :
  (bif !c then J false [enc x] else J true []) = J (if c then ([] : List α) else [x]).isEmpty ((if c then [] else [x]).map enc) := by cases c <;> rfl
def ienc (e : Int) : List CV := [CV.int .i64 e]
abbrev Ft := Int × Bs
def Qba (x : Ft) : List CV := [.int .i64 x.1, .str x.2]
def brk (q : List Lg) (x : Lg) : Bool := (match q.getLast? with | some y => !(x.fro == y.to) | none => false) || (q ++ [x]).any (fun z => z.fro == x.to)
theorem QtB (an : Bool) (l q t : List Lg) (x : Lg) (h : q ++ x :: t = l) (hl : l.length ≤ 1000) : Evt fun n => QcW lb n n an (l.map lgcv) (q.length : Int) 0 = some (.bool (!(q ++ [x]).any (fun z => z.fro == x.to))) := by
 have hll : l.length = q.length + (t.length + 1) := by rw [← h]; simp
 have hw : IntKind.wrap .i64 ((q.length : Int) + 1) = (q.length : Int) + 1 := Qaz (by omega) (by omega)
 have htk : ((l.map lgcv).take (IntKind.wrap .i64 ((q.length : Int) + 1)).toNat).drop 0 = (q ++ [x]).map lgcv := by
  rw [hw, show ((q.length : Int) + 1).toNat = q.length + 1 by omega, List.drop_zero, ← List.map_take, ← h]
  congr 1
  rw [List.take_append, List.take_of_length_le (by omega)]
  simp
 have hlast : atL (l.map lgcv) (q.length : Int) = some (lgcv x) := QaN (by rw [← h]; simp)
 refine Evt.diag (m := (q ++ [x]).length) (QdB (enc := lgcv) (l := q ++ [x]) (by simp; omega) (P := fun r s n k => QcW lb n k an (l.map lgcv) (q.length : Int) (r.length : Int) = some (.bool (!s.any (fun z => z.fro == x.to)))) ?_ ?_ (q ++ [x]) [] rfl)
 ·refine .all fun n k => ?_
  rw [Qf5, htk, decF (by simp), cond_false, QlI]
  rfl
 ·intro r z s hrs hlt hat hw2 hev
  refine hev.mono fun n hn k hk => ?_
  have hn := hn k hk
  rw [Qf5, htk, decT hlt, cond_true]
  simp only [hat, hlast, lgcv, QaF, QaD, QaK, Qa3, Qa0, Qa6, Qa7, get0, get1, get2, get3, QaM, cond_true, cond_false, List.length_cons, List.length_nil, Nat.zero_add, Nat.reduceAdd, Nat.reduceBEq, beq_self_eq_true, Qay, Qav, get4, hw2]
  by_cases e : z.fro = x.to
  ·rw [show (z.fro == x.to) = true by simpa using e, cond_true, decT (by omega)]
   simp [e]
  ·have e' : (z.fro == x.to) = false := by simpa using e
   rw [e', cond_false, hn]
   simp [e']
theorem QuU (an : Bool) (l q t : List Lg) (x : Lg) (h : q ++ x :: t = l) (hl : l.length ≤ 1000) : Ret lb QaU [.list an (l.map lgcv), .int .i64 (q.length : Int)] (.bool (!brk q x)) := by
 have hll : l.length = q.length + (t.length + 1) := by rw [← h]; simp
 have hall : (l.map lgcv).all (·.length == 5) = true := by simp [lgcv]
 have hw : IntKind.wrap .i64 ((q.length : Int) + 1) = (q.length : Int) + 1 := Qaz (by omega) (by omega)
 have hlast : atL (l.map lgcv) (q.length : Int) = some (lgcv x) := QaN (by rw [← h]; simp)
 refine .top rfl ((QtB lb an l q t x h hl).mono fun n hn => ?_)
 rw [Qn9, hall, hw, decT (show (0 : Int) ≤ (q.length : Int) + 1 ∧ (q.length : Int) + 1 ≤ ((l.map lgcv).length : Int) by rw [List.length_map]; omega), hn]
 simp only [QaM]
 unfold brk
 rcases QgM q with rfl | ⟨q', y, rfl⟩
 ·rw [decF (by simp), cond_false]
  rfl
 ·have hwl : IntKind.wrap .i64 (((q' ++ [y]).length : Int) - 1) = (q'.length : Int) := by
   rw [List.length_append, List.length_singleton] at hll ⊢
   rw [Qaz (by omega) (by omega)]
   omega
  have hpre : atL (l.map lgcv) (q'.length : Int) = some (lgcv y) := QaN (by rw [← h]; simp)
  rw [decT (by rw [List.length_append, List.length_singleton]; omega), cond_true, hlast, hwl, hpre]
  simp only [lgcv, QaF, QaD, QaK, Qa3, Qa0, Qa6, Qa7, get0, get1, get2, get3, QaM, cond_true, cond_false, List.length_cons, List.length_nil, Nat.zero_add, Nat.reduceAdd, Nat.reduceBEq, beq_self_eq_true, Qay, Qav, get4, List.getLast?_append, List.getLast?_singleton, Option.some_or]
  cases (x.fro == y.to) <;> rfl
theorem QvY (an : Bool) (l q t : List Lg) (x : Lg) (h : q ++ x :: t = l) (hl : l.length ≤ 1000) : Ret lb QbF [.list an (l.map lgcv), .int .i64 (q.length : Int)] (.bool (brk q x)) := by
 have hll : l.length = q.length + (t.length + 1) := by rw [← h]; simp
 have hlast : atL (l.map lgcv) (q.length : Int) = some (lgcv x) := QaN (by rw [← h]; simp)
 have key : Evt fun n => QdU lb n n an (l.map lgcv) (q.length : Int) 0 = some (.bool ((q ++ [x]).any (fun z => z.fro == x.to))) := by
  refine Evt.diag (m := (q ++ [x]).length) (QdB (enc := lgcv) (l := q ++ [x]) (by simp; omega) (P := fun r s n k => QdU lb n k an (l.map lgcv) (q.length : Int) (r.length : Int) = some (.bool (s.any (fun z => z.fro == x.to)))) ?_ ?_ (q ++ [x]) [] rfl)
  ·refine .all fun n k => ?_
   rw [Qh7, decF (by simp; omega), cond_false, Qo4]
   rfl
  ·intro r z s hrs hlt hat hw2 hev
   refine hev.mono fun n hn k hk => ?_
   have hn := hn k hk
   have hlz : l = r ++ z :: (s ++ t) := by
    rw [← h, show q ++ x :: t = (q ++ [x]) ++ t by simp, ← hrs]; simp
   have hat : atL (l.map lgcv) (r.length : Int) = some (lgcv z) := QaN (by rw [hlz]; simp)
   rw [Qh7, decT (by simp at hlt; omega), cond_true]
   simp only [hat, hlast, lgcv, QaF, QaD, QaK, Qa3, Qa0, Qa6, Qa7, get0, get1, get2, get3, QaM, cond_true, cond_false, List.length_cons, List.length_nil, Nat.zero_add, Nat.reduceAdd, Nat.reduceBEq, beq_self_eq_true, Qay, Qav, get4, hw2]
   by_cases e : z.fro = x.to
   ·rw [show (z.fro == x.to) = true by simpa using e, cond_true]
    simp [e]
   ·have e' : (z.fro == x.to) = false := by simpa using e
    rw [e', cond_false, hn]
    simp [e']
 refine .top rfl (key.mono fun n hn => ?_)
 rw [QsI, hn]
 unfold brk
 rcases QgM q with rfl | ⟨q', y, rfl⟩
 ·rw [decF (by simp), cond_false]
  rfl
 ·have hwl : IntKind.wrap .i64 (((q' ++ [y]).length : Int) - 1) = (q'.length : Int) := by
   rw [List.length_append, List.length_singleton] at hll ⊢
   rw [Qaz (by omega) (by omega)]
   omega
  have hpre : atL (l.map lgcv) (q'.length : Int) = some (lgcv y) := QaN (by rw [← h]; simp)
  rw [decT (by rw [List.length_append, List.length_singleton]; omega), cond_true, hlast, hwl, hpre]
  simp only [lgcv, QaF, QaD, QaK, Qa3, Qa0, Qa6, Qa7, get0, get1, get2, get3, QaM, cond_true, cond_false, List.length_cons, List.length_nil, Nat.zero_add, Nat.reduceAdd, Nat.reduceBEq, beq_self_eq_true, Qay, Qav, get4, List.getLast?_append, List.getLast?_singleton, Option.some_or]
  cases (x.fro == y.to) <;> rfl
def okM (m : Int) : Bool := decide (-1440 ≤ m ∧ m < 5760)
def Qm9 (p : Pc) (s : Bs) : Bool := (Qct s p.aps).isSome
def legE (p : Pc) (q : List Lg) (x : Lg) : List Int :=
 (((if Qes x.eq 3 3 then [] else [5]) ++ (if Qm9 p x.fro && Qm9 p x.to then [] else [14])) ++ (if !brk q x then [] else [15])) ++ (if okM x.dep && okM x.arr then [] else [2])
theorem Qpl (p : Pc) (q : List Lg) (x : Lg) : (legE p q x).length ≤ 4 := by
 unfold legE
 simp only [List.length_append]
 have h : ∀ (c : Bool) (e : Int), (if c then [] else [e] : List Int).length ≤ 1 := fun c e => by cases c <;> simp
 have := h (Qes x.eq 3 3) 5
 have := h (Qm9 p x.fro && Qm9 p x.to) 14
 have := h (!brk q x) 15
 have := h (okM x.dep && okM x.arr) 2
 omega
theorem Qni (c : Bool) (e : Int) : (if c then [] else [e] : List Int).length ≤ 1 := by cases c <;> simp
theorem Qzx (n : Nat) (ja : Bool) (aair2 : List (List CV)) (jb : Bool) (adis4 : List (List CV)) (jA : Bool) (b6 : List (List CV)) (c7 : Int) (wV wN : CV) (c9 : List CV) (we wI wH wX yM yX w5 yV wz wC x23 yf wn w8 wY yC yL yE yR : CV) (E : List Int) (hE : E.length ≤ 1000) (d a : Bool) (h1 : C lb n QbG [wH] = some (.bool d)) (h2 : C lb n QbG [wX] = some (.bool a)) :
  QeY lb n ja aair2 jb adis4 jA b6 c7 wV wN c9 we wI wH wX yM yX w5 yV wz wC x23 yf wn w8 wY yC yL yE yR E.isEmpty (E.map ienc) = some (.list (E ++ if d && a then [] else [2]).isEmpty ((E ++ if d && a then [] else [2]).map ienc)) := by
 rw [Qpo, h1, h2]
 simp only [QaF, QaD, QaK, Qa3, Qa0, Qa6, Qa7, get0, get1, get2, get3, QaM, cond_true, cond_false, List.length_cons, List.length_nil, Nat.zero_add, Nat.reduceAdd, Nat.reduceBEq, beq_self_eq_true, Qay, Qav]
 rw [Qpk]
 exact QnG (enc := ienc) (d && a) E 2 8 (by decide) (by omega) (fun b l => some (.list b l))
theorem Qzv (n : Nat) (ja : Bool) (aair2 : List (List CV)) (jb : Bool) (adis4 : List (List CV)) (jA : Bool) (b6 : List (List CV)) (c7 : Int) (wV wN : CV) (c9 : List CV) (we wI wH wX yM yX w5 yV wz wC x23 yf wn w8 wY yC yL yE yR : CV) (E : List Int) (hE : E.length ≤ 100) (f d a : Bool) (h0 : C lb n QaU [.list jA b6, .int .i64 c7] = some (.bool f)) (h1 : C lb n QbG [wH] = some (.bool d)) (h2 : C lb n QbG [wX] = some (.bool a)) :
  Qe0 lb n ja aair2 jb adis4 jA b6 c7 wV wN c9 we wI wH wX yM yX w5 yV wz wC x23 yf wn w8 wY yC yL yE yR E.isEmpty (E.map ienc) = some (.list ((E ++ if f then [] else [15]) ++ if d && a then [] else [2]).isEmpty (((E ++ if f then [] else [15]) ++ if d && a then [] else [2]).map ienc)) := by
 rw [Qpp, h0]
 simp only [QaF, QaD, QaK, Qa3, Qa0, Qa6, Qa7, get0, get1, get2, get3, QaM, cond_true, cond_false, List.length_cons, List.length_nil, Nat.zero_add, Nat.reduceAdd, Nat.reduceBEq, beq_self_eq_true, Qay, Qav]
 refine (QnG (enc := ienc) f E 15 8 (by decide) (by omega) (QeY lb n ja aair2 jb adis4 jA b6 c7 wV wN c9 we wI wH wX yM yX w5 yV wz wC x23 yf wn w8 wY yC yL yE yR)).trans ?_
 exact Qzx lb _ _ _ _ _ _ _ _ _ _ _ _ _ _ _ _ _ _ _ _ _ _ _ _ _ _ _ _ _ _ _ (by rw [List.length_append]; have := Qni f 15; omega) d a h1 h2
theorem QzH (n : Nat) (ja : Bool) (aair2 : List (List CV)) (jb : Bool) (adis4 : List (List CV)) (jA : Bool) (b6 : List (List CV)) (c7 : Int) (wV wN : CV) (c9 : List CV) (we wI wH wX yM yX w5 yV wz wC x23 yf wn w8 wY yC yL yE yR : CV) (E : List Int) (hE : E.length ≤ 10) (u v f d a : Bool) (hu : wV = .bool u) (hv : wN = .bool v) (h0 : C lb n QaU [.list jA b6, .int .i64 c7] = some (.bool f)) (h1 : C lb n QbG [wH] = some (.bool d)) (h2 : C lb n QbG [wX] = some (.bool a)) :
  flight_leg_J1 lb n ja aair2 jb adis4 jA b6 c7 wV wN c9 we wI wH wX yM yX w5 yV wz wC x23 yf wn w8 wY yC yL yE yR E.isEmpty (E.map ienc) = some (.list (((E ++ if u && v then [] else [14]) ++ if f then [] else [15]) ++ if d && a then [] else [2]).isEmpty ((((E ++ if u && v then [] else [14]) ++ if f then [] else [15]) ++ if d && a then [] else [2]).map ienc)) := by
 subst hu; subst hv
 rw [Qpt]
 simp only [QaF, QaD, QaK, Qa3, Qa0, Qa6, Qa7, get0, get1, get2, get3, QaM, cond_true, cond_false, List.length_cons, List.length_nil, Nat.zero_add, Nat.reduceAdd, Nat.reduceBEq, beq_self_eq_true, Qay, Qav]
 rw [Qpk]
 refine (QnG (enc := ienc) (u && v) E 14 8 (by decide) (by omega) _).trans ?_
 exact Qzv lb _ _ _ _ _ _ _ _ _ _ _ _ _ _ _ _ _ _ _ _ _ _ _ _ _ _ _ _ _ _ _ (by rw [List.length_append]; have := Qni (u && v) 14; omega) f d a h0 h1 h2
theorem QrJ (p : Pc) (hp : QbT p) (an : Bool) (l q t : List Lg) (x : Lg) (h : q ++ x :: t = l) (hl : l.length ≤ 1000) (hx : x.eq.length ≤ 281474976710656) :
  Ret lb QbX [pcv p, .list an (l.map lgcv), .int .i64 (q.length : Int)] (.list (legE p q x).isEmpty ((legE p q x).map ienc)) := by
 have hlast : atL (l.map lgcv) (q.length : Int) = some (lgcv x) := QaN (by rw [← h]; simp)
 refine .top rfl (Evt.imp2 (Evt.imp2 (Evt.imp2 (Qfo lb p x.fro hp.1) (Qfo lb p x.to hp.1) fun n a b => And.intro a b) (Evt.imp2 (Ql8 lb x.eq 3 3 (by omega)) (QuU lb an l q t x h hl) fun n a b => And.intro a b) fun n a b => And.intro a b)
  (Evt.imp2 (Qh8 lb x.dep) (Qh8 lb x.arr) fun n a b => And.intro a b) fun n h1 h2 => ?_)
 obtain ⟨⟨a1, a2⟩, a3, a4⟩ := h1
 obtain ⟨a5, a6⟩ := h2
 rw [QsM, hlast]
 refine stO _ rfl (stC rfl (stO _ rfl (stO _ rfl (stO _ rfl (stO _ rfl (stO _ rfl (stO _ a1 (stO _ rfl (stO _ rfl (stO _ rfl (stO _ rfl (stO _ rfl (stC rfl (stO _ rfl (stO _ rfl (stO _ rfl (stO _ rfl (stO _ rfl
  (stO _ a2 (stO _ rfl (stO _ rfl (stO _ rfl (stO _ rfl (stO _ rfl (stC rfl (stO _ rfl (stO _ rfl (stO _ rfl (stO _ rfl (stO _ rfl (stO _ a3 (stO _ rfl ?_))))))))))))))))))))))))))))))))
 refine (Qrd (enc := ienc) (Qes x.eq 3 3) 5 _).trans ?_
 exact QzH lb _ _ _ _ _ _ _ _ _ _ _ _ _ _ _ _ _ _ _ _ _ _ _ _ _ _ _ _ _ _ _ (by have := Qni (Qes x.eq 3 3) 5; omega) _ _ _ _ _ rfl rfl a4 a5 a6
def QfA : Bs := [99, 97, 114, 114, 105, 101, 114]
def Qfb : Bs := [110, 117, 109, 98, 101, 114]
def wPeriod : Bs := [112, 101, 114, 105, 111, 100]
def QnR : Bs := [108, 101, 103, 115]
def wLeg : Bs := [108, 101, 103, 32]
def wDay : Bs := [100, 97, 121, 32]
def QdR (f : Fl) : List Ft := ((if Qdt f.car then [] else [(5, QfA)]) ++ (if !(decide (f.num < 1) || decide (f.num > 9999)) then [] else [(2, Qfb)])) ++ (if perE f.fr f.to f.days != 0 then [(perE f.fr f.to f.days, wPeriod)] else [])
def QfN (f : Fl) : List Ft := QdR f ++ (if decide ((f.legs.length : Int) < 1) || decide ((f.legs.length : Int) > 6) then [(4, QnR)] else [])
def Qa2 (p : Pc) : List Lg → List Lg → List Ft
 | _, [] => []
 | q, x :: t => (legE p q x).map (fun e => (e, wLeg ++ Lib.itoa (q.length : Int))) ++ Qa2 p (q ++ [x]) t
def QcF (p : Pc) (l : List Lg) : List Int → List Ft
 | [] => []
 | d :: r => if ordF p l d then QcF p l r else [(13, wDay ++ QnQ d)]
def QaY (p : Pc) (f : Fl) : List Ft :=
 if f.legs.length < 1 ∨ f.legs.length > 6 then QfN f else
 if QdR f ++ Qa2 p [] f.legs = [] then QcF p f.legs (Qat f.fr f.to f.days) else QdR f ++ Qa2 p [] f.legs
theorem Qkc (f : Fl) : (QdR f).length ≤ 3 := by
 have h : ∀ (c : Bool) (e : Ft), (if c then [] else [e] : List Ft).length ≤ 1 := fun c e => by cases c <;> simp
 have h' : ∀ (c : Bool) (e : Ft), (if c then [e] else [] : List Ft).length ≤ 1 := fun c e => by cases c <;> simp
 unfold QdR
 rw [List.length_append, List.length_append]
 have := h (Qdt f.car) (5, QfA)
 have := h (!(decide (f.num < 1) || decide (f.num > 9999))) (2, Qfb)
 have := h' (perE f.fr f.to f.days != 0) (perE f.fr f.to f.days, wPeriod)
 omega
theorem QtY (f : Fl) (hc : f.car.length ≤ 281474976710656) : Ret lb QcR [flcv f] (.list (QfN f).isEmpty ((QfN f).map Qba)) := by
 have h1' : ∀ (c : Bool) (e : Ft), (if c then [] else [e] : List Ft).length ≤ 1 := fun c e => by cases c <;> simp
 refine .top rfl (Evt.imp2 (QqP lb f.car (by omega)) (Qdv lb f.fr f.to f.days) fun n a1 a2 => ?_)
 rw [Qva, a1]
 simp only [QaF, QaD, QaK, Qa3, Qa0, Qa6, Qa7, get0, get1, get2, get3, QaM, cond_true, cond_false, List.length_cons, List.length_nil, Nat.zero_add, Nat.reduceAdd, Nat.reduceBEq, beq_self_eq_true, Qay, Qav]
 refine (Qrd (enc := Qba) (Qdt f.car) (5, QfA) _).trans ?_
 rw [QrC, QkI]
 refine (QdT (enc := Qba) _ _ (2, Qfb) 24 (by decide) (by have := h1' (Qdt f.car) (5, QfA); omega) _).trans ?_
 rw [Qrt, a2]
 simp only [QaF, QaD, QaK, Qa3, Qa0, Qa6, Qa7, get0, get1, get2, get3, QaM, cond_true, cond_false, List.length_cons, List.length_nil, Nat.zero_add, Nat.reduceAdd, Nat.reduceBEq, beq_self_eq_true, Qay, Qav]
 have e2 : (if decide (f.num < 1) || decide (f.num > 9999) then [(2, Qfb)] else []) = (if !(decide (f.num < 1) || decide (f.num > 9999)) then [] else [((2, Qfb) : Ft)]) := by
  cases (decide (f.num < 1) || decide (f.num > 9999)) <;> rfl
 rw [e2]
 refine (QdT (enc := Qba) _ _ (perE f.fr f.to f.days, wPeriod) 24 (by decide) (by
  have := h1' (Qdt f.car) (5, QfA)
  have := h1' (!(decide (f.num < 1) || decide (f.num > 9999))) (2, Qfb)
  rw [List.length_append]; omega) _).trans ?_
 rw [Qro, QkI, List.length_map]
 exact (QdT (enc := Qba) _ _ (4, QnR) 24 (by decide) (by have := Qkc f; unfold QdR at this; omega) (fun b l => some (.list b l)))
end Go.Proofs
set_option linter.unusedSimpArgs false
namespace Go.Proofs
open Go.Am
variable (lb : Nat)
theorem QzR (c : Bool) (e : Ft) : (if c then [e] else [] : List Ft).length ≤ 1 := by cases c <;> simp
theorem Qmv (c : Bool) (e : Ft) : (if c then [] else [e] : List Ft).length ≤ 1 := by cases c <;> simp
def Qb6 (F : List Ft) : CV := .list F.isEmpty (F.map Qba)
theorem QqH (p : Pc) : ∀ (a r t : List Lg), Qa2 p r (a ++ t) = Qa2 p r a ++ Qa2 p (r ++ a) t
 | [], r, t => by simp [Qa2]
 | x :: a, r, t => by
  simp only [List.cons_append, Qa2, QqH p a (r ++ [x]) t, List.append_assoc, List.nil_append]
theorem QiS (p : Pc) : ∀ (t r : List Lg), (Qa2 p r t).length ≤ 4 * t.length
 | [], r => by simp [Qa2]
 | x :: t, r => by
  have := QiS p t (r ++ [x])
  have := Qpl p r x
  simp only [Qa2, List.length_append, List.length_map, List.length_cons]
  omega
theorem QoT (p : Pc) (q : List Lg) (x : Lg) : Qa2 p [] (q ++ [x]) = Qa2 p [] q ++ (legE p q x).map (fun e => (e, wLeg ++ Lib.itoa (q.length : Int))) := by
 rw [QqH]
 simp [Qa2]
theorem Qpg {fr days d : Int} : ∀ {k : Nat}, d ∈ upto fr days k → fr ≤ d ∧ d < fr + k
 | 0, h => by cases h
 | k + 1, h => by
  simp only [upto, List.mem_append] at h
  rcases h with h | h
  ·have := Qpg h; omega
  ·split at h
   ·have : d = fr + k := by simpa using h
    omega
   ·cases h
theorem QeG {fr to days d : Int} (h : d ∈ Qat fr to days) : 0 ≤ d ∧ d < 36525 ∧ hasF fr to days d = true := by
 unfold Qat at h
 split at h
 ·rename_i h0
  obtain ⟨a0, a1, a2, a3, a4, a5⟩ := Qe1 h0
  have hm := Qpg h
  refine ⟨by omega, by omega, ?_⟩
  have on : ∀ {k : Nat}, d ∈ upto fr days k → onF days d = true := by
   intro k
   induction k with
   | zero => intro h; cases h
   | succ k ih =>
    intro h
    simp only [upto, List.mem_append] at h
    rcases h with h | h
    ·exact ih h
    ·split at h
     ·have : d = fr + k := by simpa using h
      rw [this]; assumption
     ·cases h
  unfold hasF
  rw [decT h0, decT (by omega), decT (by omega), on h]
  rfl
 ·cases h
theorem Qib (fr to days : Int) : (Qat fr to days).length ≤ 800 := by
 unfold Qat
 split
 ·rename_i h0
  obtain ⟨a0, a1, a2, a3, a4, a5⟩ := Qe1 h0
  have := Qra fr days (to + 1 - fr).toNat
  omega
 ·simp
theorem Qw4 (p : Pc) (f : Fl) (d : Int) : ordG true 0 ((QjL p f d).map fun x => (x.dep, x.arr)) = ordF p f.legs d := by
 unfold ordF QjL
 rw [List.map_map]
 rfl
theorem QAd (n yo : Nat) (ja : Bool) (aair2 : List (List CV)) (jb : Bool) (adis4 : List (List CV)) (bcar5 : List UInt8) (jg jd jf jc : Int) (je : Bool) (bleg12 : List (List CV)) (w7 : Int) (s370 : List UInt8) (vm vn : CV) (wW : Bool × List (List CV)) (c363 : List CV) (yA yz yx yw yI yU vh vD vi vC vL vG vH vN vJ vU vW vP vK vQ : CV) (F : List Ft) (hF : F.length ≤ 1000) (d a : Bool) (h1 : C lb n QdE [yx] = some (.bool d)) (h2 : C lb n QdE [yw] = some (.bool a)) :
  Qg7 lb n yo ja aair2 jb adis4 bcar5 jg jd jf jc je bleg12 w7 s370 vm vn wW c363 yA yz yx yw yI yU vh vD vi vC vL vG vH vN vJ vU vW vP vK vQ F.isEmpty (F.map Qba) = Qcc lb n yo ja aair2 jb adis4 bcar5 jg jd jf jc je bleg12 wW (F ++ if d || a then [(2, wLeg ++ s370)] else []).isEmpty ((F ++ if d || a then [(2, wLeg ++ s370)] else []).map Qba) (IntKind.wrap .i64 (w7 + 1)) := by
 rw [QpO, h1, h2]
 simp only [QaF, QaD, QaK, Qa3, Qa0, Qa6, Qa7, get0, get1, get2, get3, QaM, cond_true, cond_false, List.length_cons, List.length_nil, Nat.zero_add, Nat.reduceAdd, Nat.reduceBEq, beq_self_eq_true, Qay, Qav]
 rw [QkI]
 exact QdT (enc := Qba) (d || a) F (2, wLeg ++ s370) 24 (by decide) (by omega) (fun b l => Qcc lb n yo ja aair2 jb adis4 bcar5 jg jd jf jc je bleg12 wW b l (IntKind.wrap .i64 (w7 + 1)))
theorem QAb (n yo : Nat) (ja : Bool) (aair2 : List (List CV)) (jb : Bool) (adis4 : List (List CV)) (bcar5 : List UInt8) (jg jd jf jc : Int) (je : Bool) (bleg12 : List (List CV)) (w7 : Int) (s370 : List UInt8) (vm vn : CV) (wW : Bool × List (List CV)) (c363 : List CV) (yA yz yx yw yI yU vh vD vi vC vL vG vH vN vJ vU vW vP vK vQ : CV) (F : List Ft) (hF : F.length ≤ 900) (b d a : Bool) (h0 : C lb n QbF [.list je bleg12, .int .i64 w7] = some (.bool b)) (h1 : C lb n QdE [yx] = some (.bool d)) (h2 : C lb n QdE [yw] = some (.bool a)) :
  Qfr lb n yo ja aair2 jb adis4 bcar5 jg jd jf jc je bleg12 w7 s370 vm vn wW c363 yA yz yx yw yI yU vh vD vi vC vL vG vH vN vJ vU vW vP vK vQ F.isEmpty (F.map Qba) = Qcc lb n yo ja aair2 jb adis4 bcar5 jg jd jf jc je bleg12 wW ((F ++ if b then [(15, wLeg ++ s370)] else []) ++ if d || a then [(2, wLeg ++ s370)] else []).isEmpty
   (((F ++ if b then [(15, wLeg ++ s370)] else []) ++ if d || a then [(2, wLeg ++ s370)] else []).map Qba) (IntKind.wrap .i64 (w7 + 1)) := by
 rw [Qql, h0]
 simp only [QaF, QaD, QaK, Qa3, Qa0, Qa6, Qa7, get0, get1, get2, get3, QaM, cond_true, cond_false, List.length_cons, List.length_nil, Nat.zero_add, Nat.reduceAdd, Nat.reduceBEq, beq_self_eq_true, Qay, Qav]
 refine (QdT (enc := Qba) b F (15, wLeg ++ s370) 24 (by decide) (by omega) _).trans ?_
 have hl : (F ++ if b then [(15, wLeg ++ s370)] else []).length ≤ 1000 := by rw [List.length_append]; have := QzR b (15, wLeg ++ s370); omega
 generalize (F ++ if b then [(15, wLeg ++ s370)] else []) = F1 at hl
 apply QAd
 ·exact hl
 ·exact h1
 ·exact h2
theorem QzV (n yo : Nat) (ja : Bool) (aair2 : List (List CV)) (jb : Bool) (adis4 : List (List CV)) (bcar5 : List UInt8) (jg jd jf jc : Int) (je : Bool) (bleg12 : List (List CV)) (w7 : Int) (s370 : List UInt8) (wW : Bool × List (List CV)) (c363 : List CV) (yA yz yx yw yI yU : CV) (F : List Ft) (hF : F.length ≤ 800) (sa sb : Bs) (aps : List Ap) (b d a : Bool)
  (h3 : C lb n QbM [.agg [.list ja aair2, .list jb adis4], yA] = some (QgS sa aps)) (h4 : C lb n QbM [.agg [.list ja aair2, .list jb adis4], yz] = some (QgS sb aps))
  (h0 : C lb n QbF [.list je bleg12, .int .i64 w7] = some (.bool b)) (h1 : C lb n QdE [yx] = some (.bool d)) (h2 : C lb n QdE [yw] = some (.bool a)) :
  Qg8 lb n yo ja aair2 jb adis4 bcar5 jg jd jf jc je bleg12 w7 s370 wW c363 yA yz yx yw yI yU F.isEmpty (F.map Qba) = Qcc lb n yo ja aair2 jb adis4 bcar5 jg jd jf jc je bleg12 wW
   (((F ++ if (Qct sa aps).isSome && (Qct sb aps).isSome then [] else [(14, wLeg ++ s370)]) ++ if b then [(15, wLeg ++ s370)] else []) ++ if d || a then [(2, wLeg ++ s370)] else []).isEmpty
   ((((F ++ if (Qct sa aps).isSome && (Qct sb aps).isSome then [] else [(14, wLeg ++ s370)]) ++ if b then [(15, wLeg ++ s370)] else []) ++ if d || a then [(2, wLeg ++ s370)] else []).map Qba) (IntKind.wrap .i64 (w7 + 1)) := by
 rw [Qp6]
 refine stO _ h3 (stO _ rfl (stO _ rfl (stO _ rfl (stO _ rfl (stO _ rfl (stC rfl (stO _ rfl (stO _ rfl (stO _ rfl (stO _ rfl (stO _ rfl (stO _ h4 (stO _ rfl (stO _ rfl (stO _ rfl (stO _ rfl (stO _ rfl (stC rfl (stO _ rfl (stO _ rfl (stO _ rfl (stO _ rfl (stO _ rfl (stO _ rfl ?_))))))))))))))))))))))))
 refine (Qpk _ _ _ _).trans ?_
 refine (QnG (enc := Qba) ((Qct sa aps).isSome && (Qct sb aps).isSome) F (14, wLeg ++ s370) 24 (by decide) (by omega) _).trans ?_
 have hl : (F ++ if (Qct sa aps).isSome && (Qct sb aps).isSome then [] else [(14, wLeg ++ s370)]).length ≤ 900 := by rw [List.length_append]; have := Qmv ((Qct sa aps).isSome && (Qct sb aps).isSome) (14, wLeg ++ s370); omega
 generalize (F ++ if (Qct sa aps).isSome && (Qct sb aps).isSome then [] else [(14, wLeg ++ s370)]) = F1 at hl
 apply QAb
 ·exact hl
 ·exact h0
 ·exact h1
 ·exact h2
theorem Qyc (p : Pc) (q : List Lg) (x : Lg) (s : Bs) : (legE p q x).map (fun e => (e, s)) =
  (((if Qes x.eq 3 3 then [] else [(5, s)]) ++ (if (Qct x.fro p.aps).isSome && (Qct x.to p.aps).isSome then [] else [(14, s)])) ++ (if brk q x then [(15, s)] else [])) ++ (if !okM x.dep || !okM x.arr then [((2, s) : Ft)] else []) := by
 unfold legE Qm9
 cases Qes x.eq 3 3 <;> cases (Qct x.fro p.aps).isSome && (Qct x.to p.aps).isSome <;> cases brk q x <;> cases okM x.dep <;> cases okM x.arr <;> rfl
theorem Qzf (d : Int) (f : Fl) (p : Pc) (hp : QbT p) (hl : f.legs.length ≤ 1000) (h : 0 ≤ d ∧ d < 36525) : Evt fun n => (C lb n Qcn [pcv p, flcv f, .int .i64 d] = some (.list f.legs.isEmpty ((QjL p f d).map dtcv)) ∧
  C lb n Qbx [.list f.legs.isEmpty ((QjL p f d).map dtcv)] = some (.bool (ordF p f.legs d))) ∧ C lb n QhO [.int .i64 d] = some (.str (QnQ d)) := by
 refine Evt.and (Evt.and (QuK lb p hp f hl d) ?_) (QsC lb d h.1 h.2)
 have := Qpv lb f.legs.isEmpty (QjL p f d) (by unfold QjL; rw [List.length_map]; exact hl)
 rw [Qw4] at this
 exact this
theorem Qm8 (d : Int) : (QnQ d).length = 10 := rfl
theorem Qy3 (p : Pc) (hp : QbT p) (f : Fl) (hl : f.legs.length ≤ 1000) (vw : Int) (wW : Bool × List (List CV)) (b0 : Bool) (D : List Int) (hD : D.length ≤ 800) (hd : ∀ d ∈ D, 0 ≤ d ∧ d < 36525) :
  Evt fun n => QdM lb n n p.an (p.aps.map apcv) p.dn (p.dis.map dicv) f.car f.num f.fr f.to f.days f.ln (f.legs.map lgcv) vw (.list b0 (dcv D)) wW true [] 0 = some (Qb6 (QcF p f.legs D)) := by
 refine Evt.diag (m := D.length) (QdB (enc := ienc) (l := D) (by omega) (P := fun q t n k => QdM lb n k p.an (p.aps.map apcv) p.dn (p.dis.map dicv) f.car f.num f.fr f.to f.days f.ln (f.legs.map lgcv) vw (.list b0 (dcv D)) wW true [] (q.length : Int) = some (Qb6 (QcF p f.legs t))) ?_ ?_ D [] rfl)
 ·refine .all fun n k => ?_
  rw [Qel]
  refine stT rfl (stO _ rfl (stF (decF (by simp [dcv])) ?_))
  rw [QgN]
  rfl
 ·intro q d t hq hlt hat hw hev
  refine Evt.imp2 hev (Qzf lb d f p hp hl (hd d (by rw [← hq]; simp))) fun n hn hc k hk => ?_
  have hn := hn k hk
  obtain ⟨⟨c1, c2⟩, c3⟩ := hc
  have hat : atL (dcv D) (q.length : Int) = some [.int .i64 d] := hat
  have hlt : (q.length : Int) < ((dcv D).length : Int) := hlt
  rw [Qel]
  refine stT rfl (stO _ rfl (stT (decT hlt) (stO _ rfl (stO _ hat (stC rfl (stO _ rfl (stO _ c1 (stO _ c2 (stO _ rfl ?_)))))))))
  unfold QcF
  cases ho : ordF p f.legs d with
  | true =>
   rw [hw]
   exact hn
  | false =>
   refine stT rfl (stO _ rfl (stO _ hat (stC rfl (stO _ rfl (stO _ c3 (stO _ rfl (stC (decT (by rw [Qm8]; decide)) (stC rfl ?_))))))))
   obtain ⟨k, rfl⟩ : ∃ m, k = m + 1 := ⟨k - 1, by omega⟩
   rw [Qel]
   refine stF rfl ?_
   rw [QgN]
   rfl
theorem QyV (p : Pc) (hp : QbT p) (f : Fl) (hl : f.legs.length ≤ 6) (hx : ∀ x ∈ f.legs, x.eq.length ≤ 281474976710656) (wW : Bool × List (List CV)) (H : List Ft) (hH : H.length ≤ 10) :
  Evt fun n => Qcc lb n n p.an (p.aps.map apcv) p.dn (p.dis.map dicv) f.car f.num f.fr f.to f.days f.ln (f.legs.map lgcv) wW H.isEmpty (H.map Qba) 0 = some (Qb6 (if H ++ Qa2 p [] f.legs = [] then QcF p f.legs (Qat f.fr f.to f.days) else H ++ Qa2 p [] f.legs)) := by
 have key := QdB (enc := lgcv) (l := f.legs) (by omega) (P := fun q t n k => Qcc lb n k p.an (p.aps.map apcv) p.dn (p.dis.map dicv) f.car f.num f.fr f.to f.days f.ln (f.legs.map lgcv) wW (H ++ Qa2 p [] q).isEmpty ((H ++ Qa2 p [] q).map Qba) (q.length : Int) =
   some (Qb6 (if H ++ Qa2 p [] f.legs = [] then QcF p f.legs (Qat f.fr f.to f.days) else H ++ Qa2 p [] f.legs))) (by
  refine Evt.imp2 (Evt.and (Qi8 lb f.fr f.to f.days) (Evt.ge 1)) (Qy3 lb p hp f (by omega) (f.legs.length : Int) wW (Qat f.fr f.to f.days).isEmpty (Qat f.fr f.to f.days) (Qib _ _ _) fun d hd => ⟨(QeG hd).1, (QeG hd).2.1⟩) fun n h1 h2 k => ?_
  rw [Qiv]
  refine stF (decF (by simp)) ?_
  rw [QpU]
  refine stO _ h1.1 ?_
  generalize H ++ Qa2 p [] f.legs = F
  cases F with
  | nil =>
   rw [if_pos rfl]
   exact h2
  | cons e F =>
   rw [if_neg (by simp)]
   obtain ⟨m, hm⟩ : ∃ m, n = m + 1 := ⟨n - 1, by omega⟩
   have : ∀ k', k' = n → QdM lb n k' p.an (p.aps.map apcv) p.dn (p.dis.map dicv) f.car f.num f.fr f.to f.days f.ln (f.legs.map lgcv) (f.legs.length : Int) (.list (Qat f.fr f.to f.days).isEmpty (dcv (Qat f.fr f.to f.days))) wW (e :: F).isEmpty ((e :: F).map Qba) 0 = some (Qb6 (e :: F)) := by
    intro k' ek
    rw [show k' = m + 1 by omega, Qel]
    refine stF (beqF (by simp; omega)) ?_
    rw [QgN]
    rfl
   exact this n rfl) (by
  intro q x t hq hlt hat hw hev
  have hll : f.legs.length = q.length + (t.length + 1) := by rw [← hq]; simp
  have hil := QeR (z := (q.length : Int)) (by omega) (by omega)
  have hF : (H ++ Qa2 p [] q).length ≤ 100 := by rw [List.length_append]; have := QiS p q []; omega
  refine Evt.imp2 hev (Evt.imp2 (Evt.imp2 (Evt.imp2 (Qi3 lb p x.fro hp.1) (Qi3 lb p x.to hp.1) fun n a b => And.intro a b) (Evt.imp2 (QmU lb x.eq 3 3 (by have := hx x (by rw [← hq]; simp); omega)) (QvY lb f.ln f.legs q t x hq (by omega)) fun n a b => And.intro a b) fun n a b => And.intro a b)
   (Evt.imp2 (Evt.imp2 (Qoz lb x.dep) (Qoz lb x.arr) fun n a b => And.intro a b) (Qfl lb (q.length : Int) (by omega) (by omega)) fun n a b => And.intro a b) fun n a b => And.intro a b) fun n hn hc k hk => ?_
  obtain ⟨⟨⟨a1, a2⟩, a3, a4⟩, ⟨a5, a6⟩, a7⟩ := hc
  have hn := hn k hk
  rw [Qiv]
  refine stT (decT hlt) (stO _ hat (stC rfl (stO _ rfl (stO _ rfl (stO _ rfl (stO _ rfl (stO _ rfl (stO _ a7 (stO _ rfl (stC (decT (by simp; omega)) (stO _ a3 (stO _ rfl ?_))))))))))))
  refine (QnG (enc := Qba) (Qes x.eq 3 3) (H ++ Qa2 p [] q) (5, wLeg ++ Lib.itoa (q.length : Int)) 24 (by decide) (by omega) _).trans ?_
  refine (QzV lb (hF := by rw [List.length_append]; have := Qmv (Qes x.eq 3 3) (5, wLeg ++ Lib.itoa (q.length : Int)); omega) (h3 := a1) (h4 := a2) (h0 := a4) (h1 := a5) (h2 := a6) ..).trans ?_
  rw [QoT, ← List.append_assoc, Qyc, ← hw] at hn
  simp only [List.append_assoc] at hn ⊢
  exact hn) f.legs [] rfl
 refine (Evt.diag key).mono fun n hn => ?_
 simpa [Qa2] using hn
theorem QxQ (f : Fl) (h : ¬ (f.legs.length < 1 ∨ f.legs.length > 6)) : QfN f = QdR f := by
 unfold QfN
 rw [decF (by omega), decF (by omega)]
 simp
theorem Qih (p : Pc) (hp : QbT p) (f : Fl) (hc : f.car.length ≤ 281474976710656) (hx : ∀ x ∈ f.legs, x.eq.length ≤ 281474976710656) : Ret lb Qam [pcv p, flcv f] (Qb6 (QaY p f)) := by
 refine .top rfl (.eq (fun n => by rw [QuB]) ?_)
 refine .call (QtY lb f hc) ?_
 simp only [Qa0, QaF, List.length_map]
 unfold QaY
 by_cases h : f.legs.length < 1 ∨ f.legs.length > 6
 ·rw [if_pos h]
  refine .all fun n => ?_
  refine (QkI _ _ _ _).trans (stT (by rw [Bool.or_eq_true, decide_eq_true_eq, decide_eq_true_eq]; omega) rfl)
 ·rw [if_neg h]
  refine (QyV lb p hp f (by omega) hx ((QfN f).isEmpty, (QfN f).map Qba) (QdR f) (by have := Qkc f; omega)).mono fun n hn => ?_
  refine stF (decF (by omega)) (stF (decF (by omega)) ?_)
  rw [QxQ f h] at hn ⊢
  exact hn
end Go.Proofs
set_option linter.unusedSimpArgs false
namespace Go.Proofs
open Go.Am
variable (lb : Nat)
theorem Qui (p : Pc) (f : Fl) (ya : CV) (i : Nat) (hi : i ≤ 100) (E : List Int) (hE : E.length ≤ 1000) (F : List Ft) (hF : F.length ≤ 10000) (r : CV) :
  ∀ u q, q ++ u = E → Evt fun n => ∀ j k, u.length < j →
   Qdo lb n k p.an (p.aps.map apcv) p.dn (p.dis.map dicv) f.car f.num f.fr f.to f.days f.ln (f.legs.map lgcv) ya (IntKind.wrap .i64 ((i : Int) + 1)) (F ++ E.map fun e => (e, wLeg ++ Lib.itoa (i : Int))).isEmpty ((F ++ E.map fun e => (e, wLeg ++ Lib.itoa (i : Int))).map Qba) = some r →
   Qfh lb n j k p.an (p.aps.map apcv) p.dn (p.dis.map dicv) f.car f.num f.fr f.to f.days f.ln (f.legs.map lgcv) ya (i : Int) (.list E.isEmpty (E.map ienc)) (E.isEmpty, E.map ienc) (q.length : Int) (F ++ q.map fun e => (e, wLeg ++ Lib.itoa (i : Int))).isEmpty ((F ++ q.map fun e => (e, wLeg ++ Lib.itoa (i : Int))).map Qba) = some r
 | [], q, h => .all fun n j k hj hr => by
  obtain ⟨j, rfl⟩ : ∃ m, j = m + 1 := ⟨j - 1, by simp at hj; omega⟩
  have h : q = E := by simpa using h
  subst h
  rw [QgK]
  refine stF (decF (by simp)) ?_
  rw [Qm7]
  exact hr
 | e :: u, q, h => by
  have hq : E.length = q.length + (u.length + 1) := by rw [← h]; simp
  have hat : atL (E.map ienc) (q.length : Int) = some (ienc e) := QaN (by rw [← h]; simp)
  have hil := QeR (z := (i : Int)) (by omega) (by omega)
  refine (Evt.imp2 (Qui p f ya i hi E hE F hF r u (q ++ [e]) (by rw [← h]; simp)) (Qpi lb (i : Int) (by omega) (by omega)) fun n h1 h2 => ?_)
  intro j k hj hr
  obtain ⟨j, rfl⟩ : ∃ m, j = m + 1 := ⟨j - 1, by simp at hj; omega⟩
  have h1 := h1 j k (by simp at hj; omega) hr
  rw [QgK]
  refine stT (decT (by simp; omega)) (stO _ rfl (stO _ hat (stC rfl (stO _ rfl (stO _ h2 (stO _ rfl (stC (decT (by simp; omega)) (stC rfl (stC (Qa8 (by simp; omega) (by omega)) ?_)))))))))
  rw [Qaz (by omega) (by omega), show (q.length : Int) + 1 = ((q ++ [e]).length : Int) by simp, Qbr (F ++ q.map fun e => (e, wLeg ++ Lib.itoa (i : Int))) (e, wLeg ++ Lib.itoa (i : Int))]
  simpa [List.map_append, List.append_assoc, Qba, wLeg] using h1
theorem QzG (d : Int) (f : Fl) (p : Pc) (hp : QbT p) (hl : f.legs.length ≤ 1000) (h : 0 ≤ d ∧ d < 36525) : Evt fun n => C lb n Qbf [pcv p, .list f.ln (f.legs.map lgcv), .int .i64 d] = some (.bool (ordF p f.legs d)) ∧ C lb n QeQ [.int .i64 d] = some (.str (QnQ d)) :=
 Evt.and (QmO lb p hp f.ln f.legs hl d) (QnB lb d h.1 h.2)
theorem QyL (p : Pc) (hp : QbT p) (f : Fl) (hl : f.legs.length ≤ 1000) (ya : CV) (b0 : Bool) (D : List Int) (hD : D.length ≤ 800) (hd : ∀ d ∈ D, 0 ≤ d ∧ d < 36525) :
  Evt fun n => Qd0 lb n n p.an (p.aps.map apcv) p.dn (p.dis.map dicv) f.car f.num f.fr f.to f.days f.ln (f.legs.map lgcv) ya (.list b0 (dcv D)) (b0, dcv D) true [] 0 = some (Qb6 (QcF p f.legs D)) := by
 refine Evt.diag (m := D.length) (QdB (enc := ienc) (l := D) (by omega) (P := fun q t n k => Qd0 lb n k p.an (p.aps.map apcv) p.dn (p.dis.map dicv) f.car f.num f.fr f.to f.days f.ln (f.legs.map lgcv) ya (.list b0 (dcv D)) (b0, dcv D) true [] (q.length : Int) = some (Qb6 (QcF p f.legs t))) ?_ ?_ D [] rfl)
 ·refine .all fun n k => ?_
  rw [Qg5]
  refine stF (decF (by simp [dcv])) ?_
  rw [Qmj]
  rfl
 ·intro q d t hq hlt hat hw hev
  refine Evt.imp2 hev (QzG lb d f p hp hl (hd d (by rw [← hq]; simp))) fun n hn hc k hk => ?_
  have hn := hn k hk
  obtain ⟨c1, c2⟩ := hc
  have hat : atL (dcv D) (q.length : Int) = some [.int .i64 d] := hat
  have hlt : (q.length : Int) < ((dcv D).length : Int) := hlt
  rw [Qg5]
  refine stT (decT hlt) (stO _ rfl (stO _ hat (stC rfl (stO _ rfl (stO _ c1 (stO _ rfl ?_))))))
  unfold QcF
  cases ho : ordF p f.legs d with
  | true =>
   rw [hw]
   exact hn
  | false =>
   refine stT rfl (stO _ c2 (stO _ rfl (stC (decT (by rw [Qm8]; decide)) (stC rfl ?_))))
   rw [Qnh]
   rfl
theorem Qzd (p : Pc) (hp : QbT p) (f : Fl) (hl : f.legs.length ≤ 6) (hx : ∀ x ∈ f.legs, x.eq.length ≤ 281474976710656) (ya : CV) (H : List Ft) (hH : H.length ≤ 10) :
  Evt fun n => Qdo lb n n p.an (p.aps.map apcv) p.dn (p.dis.map dicv) f.car f.num f.fr f.to f.days f.ln (f.legs.map lgcv) ya 0 H.isEmpty (H.map Qba) = some (Qb6 (if H ++ Qa2 p [] f.legs = [] then QcF p f.legs (Qat f.fr f.to f.days) else H ++ Qa2 p [] f.legs)) := by
 have key := QdB (enc := lgcv) (l := f.legs) (by omega) (P := fun q t n k => Qdo lb n k p.an (p.aps.map apcv) p.dn (p.dis.map dicv) f.car f.num f.fr f.to f.days f.ln (f.legs.map lgcv) ya (q.length : Int) (H ++ Qa2 p [] q).isEmpty ((H ++ Qa2 p [] q).map Qba) =
   some (Qb6 (if H ++ Qa2 p [] f.legs = [] then QcF p f.legs (Qat f.fr f.to f.days) else H ++ Qa2 p [] f.legs))) (by
  refine Evt.imp2 (QqD lb f.fr f.to f.days) (QyL lb p hp f (by omega) ya (Qat f.fr f.to f.days).isEmpty (Qat f.fr f.to f.days) (Qib _ _ _) fun d hd => ⟨(QeG hd).1, (QeG hd).2.1⟩) fun n h1 h2 k => ?_
  rw [Qg2]
  refine stF (decF (by simp)) ?_
  rw [QmN]
  generalize H ++ Qa2 p [] f.legs = F
  cases F with
  | nil =>
   rw [if_pos rfl]
   exact stF rfl (stO _ h1 (stO _ rfl h2))
  | cons e F =>
   rw [if_neg (by simp)]
   exact stT (decT (by simp)) rfl) (by
  intro q x t hq hlt hat hw hev
  have hll : f.legs.length = q.length + (t.length + 1) := by rw [← hq]; simp
  have hF : (H ++ Qa2 p [] q).length ≤ 100 := by rw [List.length_append]; have := QiS p q []; omega
  have inner := Qui lb p f ya q.length (by omega) (legE p q x) (by have := Qpl p q x; omega) (H ++ Qa2 p [] q) (by omega) (Qb6 (if H ++ Qa2 p [] f.legs = [] then QcF p f.legs (Qat f.fr f.to f.days) else H ++ Qa2 p [] f.legs)) (legE p q x) [] rfl
  refine Evt.imp2 hev (Evt.imp2 (inner.and (Evt.ge 5)) (QrJ lb p hp f.ln f.legs q t x hq (by omega) (hx x (by rw [← hq]; simp))) fun n a b => And.intro a b) fun n hn hc k hk => ?_
  obtain ⟨⟨a1, a2⟩, a3⟩ := hc
  have hn := hn k hk
  have hlE := Qpl p q x
  rw [Qg2]
  refine stT (decT hlt) (stO _ a3 (stO _ rfl ?_))
  rw [QoT, ← List.append_assoc] at hn
  have a1 := a1 n k (by omega) (by rw [hw]; exact hn)
  simpa using a1) f.legs [] rfl
 refine (Evt.diag key).mono fun n hn => ?_
 simpa [Qa2] using hn
theorem QzU (p : Pc) (hp : QbT p) (f : Fl) (hx : ∀ x ∈ f.legs, x.eq.length ≤ 281474976710656) (ya : CV) :
  Evt fun n => Qfe lb n p.an (p.aps.map apcv) p.dn (p.dis.map dicv) f.car f.num f.fr f.to f.days f.ln (f.legs.map lgcv) ya (QdR f).isEmpty ((QdR f).map Qba) = some (Qb6 (QaY p f)) := by
 have hg := Qkc f
 unfold QaY
 by_cases h : f.legs.length < 1 ∨ f.legs.length > 6
 ·rw [if_pos h]
  refine .all fun n => ?_
  rw [Qh3]
  have e : QfN f = QdR f ++ [(4, QnR)] := by
   unfold QfN
   rw [if_pos (by rw [Bool.or_eq_true, decide_eq_true_eq, decide_eq_true_eq]; omega)]
  rw [e]
  refine (QkI _ _ _ _).trans (stT (by rw [Bool.or_eq_true, beq_iff_eq, decide_eq_true_eq, List.length_map]; omega) (stC (Qa8 (by simp; omega) (by omega)) ?_))
  rw [Qbr (QdR f) (4, QnR)]
  simp [Qb6, Qba, QnR]
 ·rw [if_neg h]
  refine (Qzd lb p hp f (by omega) hx ya (QdR f) (by omega)).mono fun n hn => ?_
  rw [Qh3]
  refine stF (beqF (by rw [List.length_map]; omega)) (stF (decF (by rw [List.length_map]; omega)) ?_)
  exact hn
theorem Qjr (p : Pc) (hp : QbT p) (f : Fl) (hc : f.car.length ≤ 281474976710656) (hx : ∀ x ∈ f.legs, x.eq.length ≤ 281474976710656) : Ret lb Qai [pcv p, flcv f] (Qb6 (QaY p f)) := by
 refine .top rfl (Evt.imp2 (Evt.imp2 (Qpm lb f.car (by omega)) (QbW lb f.fr f.to f.days) fun n a b => And.intro a b) (QzU lb p hp f hx (.int .i64 (perE f.fr f.to f.days))) fun n hc h3 => ?_)
 obtain ⟨a1, a2⟩ := hc
 rw [QqN]
 refine stO _ a1 (stO _ rfl ?_)
 refine (Qrd (enc := Qba) (Qdt f.car) (5, QfA) _).trans ?_
 rw [Qnp, QkI]
 refine (QdT (enc := Qba) _ _ (2, Qfb) 24 (by decide) (by have := Qmv (Qdt f.car) (5, QfA); omega) _).trans ?_
 rw [Qmy]
 refine stO _ a2 (stO _ rfl ?_)
 have e2 : (if decide (f.num < 1) || decide (f.num > 9999) then [(2, Qfb)] else []) = (if !(decide (f.num < 1) || decide (f.num > 9999)) then [] else [((2, Qfb) : Ft)]) := by
  cases (decide (f.num < 1) || decide (f.num > 9999)) <;> rfl
 rw [e2]
 simp only [Qav, QaM]
 refine (QdT (enc := Qba) _ _ (perE f.fr f.to f.days, wPeriod) 24 (by decide) (by
  have := Qmv (Qdt f.car) (5, QfA)
  have := Qmv (!(decide (f.num < 1) || decide (f.num > 9999))) (2, Qfb)
  rw [List.length_append]; omega) _).trans ?_
 exact h3
end Go.Proofs
