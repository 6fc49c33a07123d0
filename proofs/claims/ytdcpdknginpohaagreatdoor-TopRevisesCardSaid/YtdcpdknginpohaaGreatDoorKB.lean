/- Chapter 3 on plain data: the date of a day, by the program and by its reference. Conditions: as each says. -/
import Derived.Test.YtdcpdknginpohaaGreatDoorKA
import Derived.Test.YtdcpdknginpohaaGreatDoorGb
import Derived.Test.YtdcpdknginpohaaGreatDoorRA
set_option linter.unusedSimpArgs false
namespace Go.Proofs
open Go.Am
variable (lb : Nat)
def lenF (y m : Int) : Int := if m = 2 then (if Int.tmod y 4 = 0 then 29 else 28) else if m = 4 ∨ m = 6 ∨ m = 9 ∨ m = 11 then 30 else 31
theorem Qwm (y m : Int) (h : 1 ≤ m ∧ m ≤ 12) : Qi1 y m = some (lenF y m) := by
 have : m = 1 ∨ m = 2 ∨ m = 3 ∨ m = 4 ∨ m = 5 ∨ m = 6 ∨ m = 7 ∨ m = 8 ∨ m = 9 ∨ m = 10 ∨ m = 11 ∨ m = 12 := by omega
 rcases this with rfl | rfl | rfl | rfl | rfl | rfl | rfl | rfl | rfl | rfl | rfl | rfl
 ·rfl
 ·unfold Qi1 lenF
  by_cases h : Int.tmod y 4 = 0
  ·rw [if_pos ⟨rfl, h⟩, if_pos rfl, if_pos h]
  ·rw [if_neg (fun q => h q.2), if_pos (by decide), if_pos rfl, if_neg h]
   rfl
 all_goals rfl
theorem Ql9 (y m : Int) (h : 1 ≤ m ∧ m ≤ 12) : Ret lb Qej [.int .i64 y, .int .i64 m] (.int .i64 (lenF y m)) :=
 .lib (s := QiT) rfl (by
  show (Qi1 y m).map (CV.int .i64 ·) = _
  rw [Qwm y m h]; rfl)
theorem QhK (y m : Int) : Ret lb QcO [.int .i64 y, .int .i64 m] (.int .i64 (lenF y m)) := by
 refine .top rfl (.eq (fun n => by rw [QsJ]) (.all fun n => ?_))
 unfold lenF
 simp only [Qo0]
 by_cases h4 : m = 4
 ·subst h4; rfl
 by_cases h6 : m = 6
 ·subst h6; rfl
 by_cases h9 : m = 9
 ·subst h9; rfl
 rw [beqF h4, cond_false, beqF h6, cond_false, beqF h9, cond_false]
 by_cases h11 : m = 11
 ·subst h11; rfl
 rw [beqF h11, cond_false]
 by_cases h2 : m = 2
 ·subst h2
  rw [beqT rfl, cond_true, if_pos rfl]
  by_cases h : Int.tmod y 4 = 0
  ·rw [beqT h, cond_true, if_pos h]
  ·rw [beqF h, cond_false, if_neg h]
 ·rw [beqF h2, cond_false, if_neg h2, if_neg (by omega)]
theorem Qdz (y m : Int) : 28 ≤ lenF y m ∧ lenF y m ≤ 31 := by
 unfold lenF
 split
 ·split <;> omega
 ·split <;> omega
def Qa8 (y : Int) : Int := 365 * (y - 2000) + Int.tdiv (y - 2000 + 3) 4
theorem Qia (y : Int) (h : 2000 ≤ y ∧ y ≤ 2200) : Ret lb QeL [.int .i64 y] (.int .i64 (Qa8 y)) := by
 refine .top rfl (.eq (fun n => by rw [Qn0]) (.of ?_))
 have h1 : 0 ≤ Int.tdiv (y - 2000 + 3) 4 := Int.tdiv_nonneg (by omega) (by omega)
 have h2 : Int.tdiv (y - 2000 + 3) 4 ≤ 300 := by rw [Int.tdiv_eq_ediv_of_nonneg (by omega)]; omega
 rw [QaF (x := y - 2000) (by omega) (by omega), QaF (x := 365 * (y - 2000)) (by omega) (by omega), QaF (x := y - 2000 + 3) (by omega) (by omega), QaF (x := Int.tdiv (y - 2000 + 3) 4) (by omega) (by omega), QaF (by omega) (by omega)]
 rfl
theorem Qkl (y : Int) (h : 2000 ≤ y) : Qa8 (y + 1) = Qa8 y + (if Int.tmod y 4 = 0 then 366 else 365) := by
 unfold Qa8
 rw [Int.tdiv_eq_ediv_of_nonneg (by omega), Int.tdiv_eq_ediv_of_nonneg (by omega), Int.tmod_eq_emod_of_nonneg (by omega)]
 split <;> omega
def QbS (y : Int) : Nat → Int → Int → (Int × Int × Int) ⊕ Int
 | 0, _, rest => .inr rest
 | k + 1, m, rest => if rest < lenF y (m + 1) then .inl (y, m + 1, rest + 1) else QbS y k (m + 1) (rest - lenF y (m + 1))
def sumL (y : Int) : Nat → Int → Int
 | 0, _ => 0
 | k + 1, m => lenF y (m + 1) + sumL y k (m + 1)
theorem Qol (y : Int) : ∀ (k : Nat) (m : Int), 0 ≤ sumL y k m
 | 0, _ => by simp [sumL]
 | k + 1, m => by
  have := Qol y k (m + 1)
  have := Qdz y (m + 1)
  simp only [sumL]
  omega
theorem Qr5 (y : Int) : sumL y 12 0 = (if Int.tmod y 4 = 0 then 366 else 365) := by
 have e1 : lenF y (0 + 1) = 31 := rfl
 have e2 : lenF y (0 + 1 + 1) = if Int.tmod y 4 = 0 then 29 else 28 := rfl
 have e3 : lenF y (0 + 1 + 1 + 1) = 31 := rfl
 have e4 : lenF y (0 + 1 + 1 + 1 + 1) = 30 := rfl
 have e5 : lenF y (0 + 1 + 1 + 1 + 1 + 1) = 31 := rfl
 have e6 : lenF y (0 + 1 + 1 + 1 + 1 + 1 + 1) = 30 := rfl
 have e7 : lenF y (0 + 1 + 1 + 1 + 1 + 1 + 1 + 1) = 31 := rfl
 have e8 : lenF y (0 + 1 + 1 + 1 + 1 + 1 + 1 + 1 + 1) = 31 := rfl
 have e9 : lenF y (0 + 1 + 1 + 1 + 1 + 1 + 1 + 1 + 1 + 1) = 30 := rfl
 have e10 : lenF y (0 + 1 + 1 + 1 + 1 + 1 + 1 + 1 + 1 + 1 + 1) = 31 := rfl
 have e11 : lenF y (0 + 1 + 1 + 1 + 1 + 1 + 1 + 1 + 1 + 1 + 1 + 1) = 30 := rfl
 have e12 : lenF y (0 + 1 + 1 + 1 + 1 + 1 + 1 + 1 + 1 + 1 + 1 + 1 + 1) = 31 := rfl
 simp only [sumL, e1, e2, e3, e4, e5, e6, e7, e8, e9, e10, e11, e12]
 split <;> omega
theorem Qkt (y : Int) : ∀ (k : Nat) (m rest : Int), 0 ≤ rest → (∀ t, QbS y k m rest = .inl t → rest < sumL y k m) ∧ (∀ r, QbS y k m rest = .inr r → r = rest - sumL y k m ∧ 0 ≤ r)
 | 0, m, rest, h => by
  refine ⟨fun t q => (by cases q), fun r q => ?_⟩
  cases q
  exact ⟨by simp [sumL], h⟩
 | k + 1, m, rest, h => by
  have hr := Qdz y (m + 1)
  have hn := Qol y k (m + 1)
  by_cases c : rest < lenF y (m + 1)
  ·simp only [QbS, if_pos c, sumL]
   exact ⟨fun t q => (by omega), fun r q => (by cases q)⟩
  ·simp only [QbS, if_neg c, sumL]
   have ih := Qkt y k (m + 1) (rest - lenF y (m + 1)) (by omega)
   refine ⟨fun t q => ?_, fun r q => ?_⟩
   ·have := ih.1 t q; omega
   ·have := ih.2 r q; omega
theorem Qof (y rest : Int) (h : rest ≥ (if Int.tmod y 4 = 0 then 366 else 365)) : QbS y 12 0 rest = .inr (rest - (if Int.tmod y 4 = 0 then 366 else 365)) := by
 have h0 : 0 ≤ rest := by split at h <;> omega
 have hs := Qkt y 12 0 rest h0
 rw [Qr5] at hs
 cases e : QbS y 12 0 rest with
 | inl t => have := hs.1 t e; omega
 | inr r => rw [(hs.2 r e).1]
theorem QoI (y rest : Int) (h0 : 0 ≤ rest) (h : rest < (if Int.tmod y 4 = 0 then 366 else 365)) : ∃ t, QbS y 12 0 rest = .inl t := by
 have hs := Qkt y 12 0 rest h0
 rw [Qr5] at hs
 cases e : QbS y 12 0 rest with
 | inl t => exact ⟨t, rfl⟩
 | inr r => have := hs.2 r e; omega
theorem Qor (y : Int) : ∀ (k : Nat) (m rest : Int), 0 ≤ rest → (∀ t, QbS y k m rest = .inl t → t.1 = y ∧ m + 1 ≤ t.2.1 ∧ t.2.1 ≤ m + k ∧ 1 ≤ t.2.2 ∧ t.2.2 ≤ lenF y t.2.1) ∧ (∀ r, QbS y k m rest = .inr r → 0 ≤ r ∧ rest ≥ r + 28 * k)
 | 0, m, rest, h => by
  refine ⟨fun t q => (by cases q), fun r q => ?_⟩
  cases q
  exact ⟨h, by simp⟩
 | k + 1, m, rest, h => by
  have hr := Qdz y (m + 1)
  by_cases c : rest < lenF y (m + 1)
  ·simp only [QbS, if_pos c]
   refine ⟨fun t q => ?_, fun r q => by cases q⟩
   cases q
   simp only
   refine ⟨trivial, by omega, by omega, by omega, by omega⟩
  ·simp only [QbS, if_neg c]
   have ih := Qor y k (m + 1) (rest - lenF y (m + 1)) (by omega)
   refine ⟨fun t q => ?_, fun r q => ?_⟩
   ·have := ih.1 t q
    refine ⟨this.1, by omega, by omega, this.2.2.2⟩
   ·have := ih.2 r q
    refine ⟨this.1, by omega⟩
def QkD (D Y : Int) : Prop := 2000 ≤ Y ∧ Y ≤ 2099 ∧ Qa8 Y ≤ D ∧ D < Qa8 (Y + 1)
theorem QoA {a b : Int} (ha : 2000 ≤ a) (h : a ≤ b) : Qa8 a ≤ Qa8 b := by
 unfold Qa8
 rw [Int.tdiv_eq_ediv_of_nonneg (by omega), Int.tdiv_eq_ediv_of_nonneg (by omega)]
 omega
theorem QpM {D a b : Int} (ha : QkD D a) (hb : QkD D b) : a = b := by
 rcases Int.lt_trichotomy a b with h | h | h
 ·have := QoA (a := a + 1) (b := b) (by have := ha.1; omega) (by omega)
  have := ha.2.2.2; have := hb.2.2.1; omega
 ·exact h
 ·have := QoA (a := b + 1) (b := a) (by have := hb.1; omega) (by omega)
  have := hb.2.2.2; have := ha.2.2.1; omega
def Qs1 (D : Int) : Nat → Int → Int
 | 0, y => y
 | k + 1, y => if Qa8 (y + 1) ≤ D then Qs1 D k (y + 1) else y
theorem Quw {D : Int} (hD : D < 36525) : ∀ (k : Nat) (y : Int), 2000 ≤ y → y + k = 2099 → Qa8 y ≤ D → QkD D (Qs1 D k y)
 | 0, y, h0, h, h1 => by
  have : y = 2099 := by omega
  subst this
  exact ⟨by show (2000 : Int) ≤ 2099; omega, by show (2099 : Int) ≤ 2099; omega, h1, by show D < Qa8 2100; rw [show Qa8 2100 = 36525 by decide]; exact hD⟩
 | k + 1, y, h0, h, h1 => by
  unfold Qs1
  split
  ·exact Quw hD k (y + 1) (by omega) (by omega) (by assumption)
  ·exact ⟨h0, by omega, h1, by omega⟩
def Qgu (D : Int) : Int := Qs1 D 99 2000
theorem QlH {D : Int} (h0 : 0 ≤ D) (hD : D < 36525) : QkD D (Qgu D) := Quw hD 99 2000 (by omega) (by omega) (by rw [show Qa8 2000 = 0 by decide]; exact h0)
def Qdo (D : Int) : Int × Int × Int := match QbS (Qgu D) 12 0 (D - Qa8 (Qgu D)) with
 | .inl t => t
 | .inr _ => (0, 0, 0)
theorem Qnp {D : Int} (h0 : 0 ≤ D) (hD : D < 36525) : QbS (Qgu D) 12 0 (D - Qa8 (Qgu D)) = .inl (Qdo D) := by
 have hy := QlH h0 hD
 obtain ⟨t, ht⟩ := QoI (Qgu D) (D - Qa8 (Qgu D)) (by have := hy.2.2.1; omega) (by have := hy.2.2.2; rw [Qkl _ hy.1] at this; omega)
 unfold Qdo
 rw [ht]
theorem QoC {D : Int} (h0 : 0 ≤ D) (hD : D < 36525) : 2000 ≤ (Qdo D).1 ∧ (Qdo D).1 ≤ 2099 ∧ 1 ≤ (Qdo D).2.1 ∧ (Qdo D).2.1 ≤ 12 ∧ 1 ≤ (Qdo D).2.2 ∧ (Qdo D).2.2 ≤ 31 := by
 have hy := QlH h0 hD
 have h := (Qor (Qgu D) 12 0 (D - Qa8 (Qgu D)) (by have := hy.2.2.1; omega)).1 _ (Qnp h0 hD)
 have := Qdz (Qgu D) (Qdo D).2.1
 obtain ⟨h1, h2, h3, h4, h5⟩ := h
 have := hy.1; have := hy.2.1
 refine ⟨by omega, by omega, by omega, by omega, by omega, by omega⟩
def tri (t : Int × Int × Int) : CV := .tup [.int .i64 t.1, .int .i64 t.2.1, .int .i64 t.2.2]
theorem QoF (D Y : Int) (y6 : CV) (vQ : Int) : ∀ (k m : Nat) (rest : Int), m + k = 12 → 0 ≤ rest → rest ≤ 1000 → ∀ t, QbS Y k (m : Int) rest = .inl t →
  Evt fun n => ∀ j, k < j → QeN lb n j D Y y6 vQ rest (m : Int) = some (tri t)
 | 0, m, rest, h, h0, h1, t, q => by cases q
 | k + 1, m, rest, h, h0, h1, t, q => by
  have hr := Qdz Y ((m : Int) + 1)
  have hw : IntKind.wrap .i64 ((m : Int) + 1) = (m : Int) + 1 := QaF (by omega) (by omega)
  have hlen := Ql9 lb Y ((m : Int) + 1) ⟨by omega, by omega⟩
  by_cases c : rest < lenF Y ((m : Int) + 1)
  ·simp only [QbS, if_pos c] at q
   cases q
   refine hlen.mono fun n hn j hj => ?_
   obtain ⟨j, rfl⟩ : ∃ m, j = m + 1 := ⟨j - 1, by omega⟩
   rw [QgK, decT (by omega), cond_true, hw, hn]
   simp only [QaD, QaG, QaL, Qa1, QaW, Qa6, Qa7, get0, get1, get2, get3, QaK, cond_true, cond_false, List.length_cons, List.length_nil, Nat.zero_add, Nat.reduceAdd, Nat.reduceBEq, beq_self_eq_true, Qaw, Qau]
   rw [decT c, cond_true, QaF (x := rest + 1) (by omega) (by omega)]
   rfl
  ·simp only [QbS, if_neg c] at q
   refine Evt.imp2 hlen (QoF D Y y6 vQ k (m + 1) (rest - lenF Y ((m : Int) + 1)) (by omega) (by omega) (by omega) t (by exact_mod_cast q)) fun n hn hi j hj => ?_
   obtain ⟨j, rfl⟩ : ∃ m, j = m + 1 := ⟨j - 1, by omega⟩
   rw [QgK, decT (by omega), cond_true, hw, hn]
   simp only [QaD, QaG, QaL, Qa1, QaW, Qa6, Qa7, get0, get1, get2, get3, QaK, cond_true, cond_false, List.length_cons, List.length_nil, Nat.zero_add, Nat.reduceAdd, Nat.reduceBEq, beq_self_eq_true, Qaw, Qau]
   rw [decF c, cond_false, QaF (x := rest - lenF Y ((m : Int) + 1)) (by omega) (by omega)]
   exact_mod_cast hi j (by omega)
theorem Qqr {D : Int} (h0 : 0 ≤ D) (hD : D < 36525) : ∀ (k : Nat) (y : Int), 2000 ≤ y → y + k = 2099 → Qa8 y ≤ D → Evt fun n => ∀ j, k < j → QeO lb n j D y = some (tri (Qdo D))
 | k, y, h1, h2, h3 => by
  have hf := Qia lb (y + 1) ⟨by omega, by omega⟩
  have hw : IntKind.wrap .i64 (y + 1) = y + 1 := QaF (by omega) (by omega)
  by_cases c : Qa8 (y + 1) ≤ D
  ·match k, h2 with
   | 0, h2 =>
    exfalso
    have : y = 2099 := by omega
    subst this
    rw [show Qa8 (2099 + 1) = 36525 by decide] at c
    omega
   | k + 1, h2 =>
    refine Evt.imp2 hf (Qqr h0 hD k (y + 1) (by omega) (by omega) c) fun n hn hi j hj => ?_
    obtain ⟨j, rfl⟩ : ∃ m, j = m + 1 := ⟨j - 1, by omega⟩
    rw [QgP, hw, hn]
    simp only [QaD, QaG, QaL, Qa1, QaW, Qa6, Qa7, get0, get1, get2, get3, QaK, cond_true, cond_false, List.length_cons, List.length_nil, Nat.zero_add, Nat.reduceAdd, Nat.reduceBEq, beq_self_eq_true, Qaw, Qau]
    rw [decT c, cond_true]
    exact hi j (by omega)
  ·have hY : QkD D y := ⟨h1, by omega, h3, by omega⟩
   have hy : y = Qgu D := QpM hY (QlH h0 hD)
   have hm := QoF lb D y (.int .i64 (Qa8 y)) (Qa8 y) 12 0 (D - Qa8 y) rfl (by omega) (by have := hY.2.2.2; rw [Qkl y h1] at this; split at this <;> omega) (Qdo D) (by rw [hy]; exact Qnp h0 hD)
   refine Evt.imp2 (Evt.imp2 hf (Qia lb y ⟨by omega, by omega⟩) fun n a b => And.intro a b) (hm.and (Evt.ge 13)) fun n hn hi j hj => ?_
   obtain ⟨j, rfl⟩ : ∃ m, j = m + 1 := ⟨j - 1, by omega⟩
   rw [QgP, hw, hn.1]
   simp only [QaD, QaG, QaL, Qa1, QaW, Qa6, Qa7, get0, get1, get2, get3, QaK, cond_true, cond_false, List.length_cons, List.length_nil, Nat.zero_add, Nat.reduceAdd, Nat.reduceBEq, beq_self_eq_true, Qaw, Qau]
   rw [decF c, cond_false, Qma, hn.2]
   simp only [QaD, QaG, QaL, Qa1, QaW, Qa6, Qa7, get0, get1, get2, get3, QaK, cond_true, cond_false, List.length_cons, List.length_nil, Nat.zero_add, Nat.reduceAdd, Nat.reduceBEq, beq_self_eq_true, Qaw, Qau]
   rw [QaF (x := D - Qa8 y) (by omega) (by have : 0 ≤ Qa8 y := (by unfold Qa8; have := Int.tdiv_nonneg (a := y - 2000 + 3) (b := 4) (by omega) (by omega); omega); omega)]
   exact hi.1 n (by omega)
theorem Qn4 (D : Int) (h0 : 0 ≤ D) (hD : D < 36525) : Ret lb QaT [.int .i64 D] (tri (Qdo D)) := by
 refine .top rfl (.eq (fun n => by rw [Qo2]) ?_)
 have q0 : 0 ≤ Int.tdiv D 366 := Int.tdiv_nonneg h0 (by decide)
 have q1 : Int.tdiv D 366 ≤ 99 := by rw [Int.tdiv_eq_ediv_of_nonneg h0]; omega
 simp only [decF (show ¬ D < 0 by omega), cond_false, decF (show ¬ D ≥ 36525 by omega), QaF (x := Int.tdiv D 366) (by omega) (by omega), QaF (x := 2000 + Int.tdiv D 366) (by omega) (by omega)]
 obtain ⟨k, hk⟩ := Int.eq_ofNat_of_zero_le (show 0 ≤ 2099 - (2000 + Int.tdiv D 366) by omega)
 refine Evt.diag (Qqr lb h0 hD k (2000 + Int.tdiv D 366) (by omega) (by omega) ?_)
 unfold Qa8
 rw [Int.tdiv_eq_ediv_of_nonneg h0, Int.tdiv_eq_ediv_of_nonneg (by omega)]
 omega
def QjT (day y m : Int) (r : CV) : Prop := ∃ c, Evt fun n => ∀ k, c < k → Qf8 lb n k day y m = some r
theorem QvX {day y m : Int} (h : day < lenF y m) (h0 : 0 ≤ day) : QjT lb day y m (.tup [.int .i64 y, .int .i64 m, .int .i64 (day + 1)]) := by
 have := Qdz y m
 refine ⟨0, (QhK lb y m).mono fun n hn k hk => ?_⟩
 obtain ⟨k, rfl⟩ : ∃ m, k = m + 1 := ⟨k - 1, by omega⟩
 rw [QgA, hn]
 simp only [QaD, QaG, QaL, Qa1, QaW, Qa6, Qa7, get0, get1, get2, get3, QaK, cond_true, cond_false, List.length_cons, List.length_nil, Nat.zero_add, Nat.reduceAdd, Nat.reduceBEq, beq_self_eq_true, Qaw, Qau]
 rw [decF (by omega), cond_false, QqN, QaF (by omega) (by omega)]
theorem Qwg {day y m : Int} {r : CV} (h : lenF y m ≤ day) (hd : day ≤ 100000) (hm : 1 ≤ m ∧ m < 12) (hr : QjT lb (day - lenF y m) y (m + 1) r) : QjT lb day y m r := by
 obtain ⟨c, hc⟩ := hr
 have := Qdz y m
 refine ⟨c + 1, Evt.imp2 (QhK lb y m) hc fun n hn hi k hk => ?_⟩
 obtain ⟨k, rfl⟩ : ∃ m, k = m + 1 := ⟨k - 1, by omega⟩
 rw [QgA, hn]
 simp only [QaD, QaG, QaL, Qa1, QaW, Qa6, Qa7, get0, get1, get2, get3, QaK, cond_true, cond_false, List.length_cons, List.length_nil, Nat.zero_add, Nat.reduceAdd, Nat.reduceBEq, beq_self_eq_true, Qaw, Qau]
 rw [decT (by omega), cond_true, QaF (x := m + 1) (by omega) (by omega), beqF (by omega), cond_false, QaF (by omega) (by omega)]
 exact hi k (by omega)
theorem QvS {day y : Int} {r : CV} (h : lenF y 12 ≤ day) (hd : day ≤ 100000) (hy : 2000 ≤ y ∧ y ≤ 3000) (hr : QjT lb (day - lenF y 12) (y + 1) 1 r) : QjT lb day y 12 r := by
 obtain ⟨c, hc⟩ := hr
 have := Qdz y 12
 refine ⟨c + 1, Evt.imp2 (QhK lb y 12) hc fun n hn hi k hk => ?_⟩
 obtain ⟨k, rfl⟩ : ∃ m, k = m + 1 := ⟨k - 1, by omega⟩
 rw [QgA, hn]
 simp only [QaD, QaG, QaL, Qa1, QaW, Qa6, Qa7, get0, get1, get2, get3, QaK, cond_true, cond_false, List.length_cons, List.length_nil, Nat.zero_add, Nat.reduceAdd, Nat.reduceBEq, beq_self_eq_true, Qaw, Qau]
 rw [decT (by omega), cond_true, QaF (x := 12 + 1) (by omega) (by omega), beqT (by omega), cond_true, QaF (x := y + 1) (by omega) (by omega), QaF (by omega) (by omega)]
 exact hi k (by omega)
theorem Qnu (y : Int) (hy : 2000 ≤ y ∧ y ≤ 3000) {r : CV} : ∀ (k : Nat) (m day : Int), m + (k + 1) = 12 → 0 ≤ m → 0 ≤ day → day ≤ 100000 →
  (∀ t, QbS y (k + 1) m day = .inl t → r = tri t) → (∀ q, QbS y (k + 1) m day = .inr q → QjT lb q (y + 1) 1 r) → QjT lb day y (m + 1) r
 | k, m, day, h, hm, h0, h1, hl, hr => by
  have hlr := Qdz y (m + 1)
  by_cases c : day < lenF y (m + 1)
  ·simp only [QbS, if_pos c] at hl
   rw [hl _ rfl]
   exact QvX lb c h0
  ·simp only [QbS, if_neg c] at hl hr
   match k, h with
   | 0, h =>
    have : m + 1 = 12 := by omega
    rw [this] at c hlr hr ⊢
    exact QvS lb (by omega) h1 hy (hr _ rfl)
   | k + 1, h => exact Qwg lb (by omega) h1 ⟨by omega, by omega⟩ (Qnu y hy k (m + 1) (day - lenF y (m + 1)) (by omega) (by omega) (by omega) (by omega) hl hr)
theorem Qop {D : Int} (h0 : 0 ≤ D) (hD : D < 36525) : ∀ (k : Nat) (y : Int), 2000 ≤ y → y + k = 2099 → Qa8 y ≤ D → QjT lb (D - Qa8 y) y 1 (tri (Qdo D))
 | k, y, h1, h2, h3 => by
  have hf0 : 0 ≤ Qa8 y := by unfold Qa8; have := Int.tdiv_nonneg (a := y - 2000 + 3) (b := 4) (by omega) (by omega); omega
  have hst := Qkl y h1
  refine Qnu lb y ⟨h1, by omega⟩ 11 0 (D - Qa8 y) (by omega) (by omega) (by omega) (by omega) (fun t ht => ?_) fun q hq => ?_
  ·by_cases c : Qa8 (y + 1) ≤ D
   ·rw [Qof y _ (by rw [hst] at c; omega)] at ht
    cases ht
   ·have hY : QkD D y := ⟨h1, by omega, h3, by omega⟩
    have hy : y = Qgu D := QpM hY (QlH h0 hD)
    have := Qnp h0 hD
    rw [← hy, ht] at this
    cases this
    rfl
  ·by_cases c : Qa8 (y + 1) ≤ D
   ·rw [Qof y _ (by rw [hst] at c; omega)] at hq
    cases hq
    rw [show D - Qa8 y - (if Int.tmod y 4 = 0 then 366 else 365) = D - Qa8 (y + 1) by rw [hst]; omega]
    match k, h2 with
    | 0, h2 =>
     exfalso
     have : y = 2099 := by omega
     subst this
     rw [show Qa8 (2099 + 1) = 36525 by decide] at c
     omega
    | k + 1, h2 => exact Qop h0 hD k (y + 1) (by omega) (by omega) c
   ·obtain ⟨t, ht⟩ := QoI y (D - Qa8 y) (by omega) (by rw [hst] at c; omega)
    rw [ht] at hq
    cases hq
theorem Qun (D : Int) (h0 : 0 ≤ D) (hD : D < 36525) : Ret lb Qcy [.int .i64 D] (tri (Qdo D)) := by
 refine .top rfl (.eq (fun n => by rw [QuF]) ?_)
 simp only [decF (show ¬ D < 0 by omega), cond_false, decF (show ¬ D ≥ 36525 by omega)]
 obtain ⟨c, hc⟩ := Qop lb h0 hD 99 2000 (by omega) (by omega) (by rw [show Qa8 2000 = 0 by decide]; exact h0)
 rw [show Qa8 2000 = 0 by decide, Int.sub_zero] at hc
 exact Evt.diag hc
def twoS (z : Int) : Bs := [UInt8.ofNat (IntKind.wrap .u8 (IntKind.wrap .i64 (48 + IntKind.wrap .i64 (Int.tdiv z 10)))).toNat, UInt8.ofNat (IntKind.wrap .u8 (IntKind.wrap .i64 (48 + Int.tmod z 10))).toNat]
theorem Qzp (x : Int) : 0 ≤ IntKind.wrap .u8 x ∧ IntKind.wrap .u8 x < 256 := by
 unfold IntKind.wrap
 simp only [IntKind.bits, IntKind.signed]
 simp
 omega
theorem QrH (x y : Int) : bytesOf [[CV.int .u8 (IntKind.wrap .u8 x)], [CV.int .u8 (IntKind.wrap .u8 y)]] = some [UInt8.ofNat (IntKind.wrap .u8 x).toNat, UInt8.ofNat (IntKind.wrap .u8 y).toNat] := by
 simp only [bytesOf, Qzp, and_self, if_true, Option.map_some]
theorem QeQ (z : Int) : Ret lb QdK [.int .i64 z] (.str (twoS z)) :=
 .top rfl (.all fun n => by rw [Qp9, QrH, QaD]; rfl)
theorem QhP (z : Int) : Ret lb QgN [.int .i64 z] (.str (twoS z)) :=
 .top rfl (.all fun n => by rw [Qwo, QrH, QaD]; rfl)
def QnF (D : Int) : Bs := ((((twoS (IntKind.wrap .i64 (Int.tdiv (Qdo D).1 100)) ++ twoS (Int.tmod (Qdo D).1 100)) ++ [45]) ++ twoS (Qdo D).2.1) ++ [45]) ++ twoS (Qdo D).2.2
theorem QmV (D : Int) (h0 : 0 ≤ D) (hD : D < 36525) : Ret lb QeR [.int .i64 D] (.str (QnF D)) := by
 refine .top rfl (.eq (fun n => by rw [Qn2]) ?_)
 refine .call (Qn4 lb D h0 hD) ?_
 have hr := QoC h0 hD
 simp only [tri, QaD, QaG, QaL, Qa1, QaW, Qa6, Qa7, get0, get1, get2, get3, QaK, cond_true, cond_false, List.length_cons, List.length_nil, Nat.zero_add, Nat.reduceAdd, Nat.reduceBEq, beq_self_eq_true, Qaw, Qau]
 rw [show ((Qdo D).1 == 0) = false from beqF (by omega)]
 simp only [cond_false]
 refine .call (QeQ lb _) (.call (QeQ lb _) ?_)
 simp only [QaD, QaG, QaL, Qa1, QaW, Qa6, Qa7, get0, get1, get2, get3, QaK, cond_true, cond_false, List.length_cons, List.length_nil, Nat.zero_add, Nat.reduceAdd, Nat.reduceBEq, beq_self_eq_true, Qaw, Qau]
 refine .chk (by simp [twoS]) (.chk (by simp [twoS]) (.call (QeQ lb _) ?_))
 simp only [QaD, QaG, QaL, Qa1, QaW, Qa6, Qa7, get0, get1, get2, get3, QaK, cond_true, cond_false, List.length_cons, List.length_nil, Nat.zero_add, Nat.reduceAdd, Nat.reduceBEq, beq_self_eq_true, Qaw, Qau]
 refine .chk (by simp [twoS]) (.chk (by simp [twoS]) (.call (QeQ lb _) ?_))
 simp only [QaD, QaG, QaL, Qa1, QaW, Qa6, Qa7, get0, get1, get2, get3, QaK, cond_true, cond_false, List.length_cons, List.length_nil, Nat.zero_add, Nat.reduceAdd, Nat.reduceBEq, beq_self_eq_true, Qaw, Qau]
 exact .chk (by simp [twoS]) (.of rfl)
theorem QsU (D : Int) (h0 : 0 ≤ D) (hD : D < 36525) : Ret lb Qh2 [.int .i64 D] (.str (QnF D)) := by
 refine .top rfl (.eq (fun n => by rw [Qs8]) ?_)
 refine .call (Qun lb D h0 hD) ?_
 have hr := QoC h0 hD
 simp only [tri, QaD, QaG, QaL, Qa1, QaW, Qa6, Qa7, get0, get1, get2, get3, QaK, cond_true, cond_false, List.length_cons, List.length_nil, Nat.zero_add, Nat.reduceAdd, Nat.reduceBEq, beq_self_eq_true, Qaw, Qau]
 rw [show ((Qdo D).1 == 0) = false from beqF (by omega)]
 simp only [cond_false]
 refine .call (QhP lb _) (.call (QhP lb _) ?_)
 simp only [QaD, QaG, QaL, Qa1, QaW, Qa6, Qa7, get0, get1, get2, get3, QaK, cond_true, cond_false, List.length_cons, List.length_nil, Nat.zero_add, Nat.reduceAdd, Nat.reduceBEq, beq_self_eq_true, Qaw, Qau]
 refine .chk (by simp [twoS]) (.chk (by simp [twoS]) (.call (QhP lb _) ?_))
 simp only [QaD, QaG, QaL, Qa1, QaW, Qa6, Qa7, get0, get1, get2, get3, QaK, cond_true, cond_false, List.length_cons, List.length_nil, Nat.zero_add, Nat.reduceAdd, Nat.reduceBEq, beq_self_eq_true, Qaw, Qau]
 refine .chk (by simp [twoS]) (.chk (by simp [twoS]) (.call (QhP lb _) ?_))
 simp only [QaD, QaG, QaL, Qa1, QaW, Qa6, Qa7, get0, get1, get2, get3, QaK, cond_true, cond_false, List.length_cons, List.length_nil, Nat.zero_add, Nat.reduceAdd, Nat.reduceBEq, beq_self_eq_true, Qaw, Qau]
 exact .chk (by simp [twoS]) (.of rfl)
end Go.Proofs
set_option linter.unusedSimpArgs false
namespace Go.Proofs
open Go.Am
variable (lb : Nat)
theorem Qm4 {α : Type} {enc : α → List CV} (c : Bool) (F : List α) (x : α) (m : Nat) (hm : m ≤ 1000) (hF : F.length ≤ 100000) (J : Bool → List (List CV) → Option CV) :
  (bif !c then chkO (room ((F.map enc).length + 1) m) (J (F.isEmpty && false) (F.map enc ++ [enc x])) else J F.isEmpty (F.map enc)) = J (F ++ if c then [] else [x]).isEmpty ((F ++ if c then [] else [x]).map enc) := by
 cases c with
 | false => simp only [Bool.not_false, cond_true, Qb4 (n := (F.map enc).length + 1) (b := m) (by simp; omega) hm, QaK, Bool.false_eq_true, if_false, List.map_append, List.map_cons, List.map_nil, QcB F x]
 | true => simp only [Bool.not_true, cond_false, if_true, List.append_nil]
theorem QdR {α : Type} {enc : α → List CV} (c : Bool) (F : List α) (x : α) (m : Nat) (hm : m ≤ 1000) (hF : F.length ≤ 100000) (J : Bool → List (List CV) → Option CV) :
  (bif c then chkO (room ((F.map enc).length + 1) m) (J (F.isEmpty && false) (F.map enc ++ [enc x])) else J F.isEmpty (F.map enc)) = J (F ++ if c then [x] else []).isEmpty ((F ++ if c then [x] else []).map enc) := by
 cases c with
 | true => simp only [cond_true, Qb4 (n := (F.map enc).length + 1) (b := m) (by simp; omega) hm, QaK, if_true, List.map_append, List.map_cons, List.map_nil, QcB F x]
 | false => simp only [cond_false, Bool.false_eq_true, if_false, List.append_nil]
theorem Qkz {β : Type} (c d : Bool) (x y : β) : (bif c then x else bif d then x else y) = (bif c || d then x else y) := by cases c <;> rfl
theorem Qo4 {β : Type} (c d : Bool) (x y : β) : (bif !c then x else bif !d then x else y) = (bif !(c && d) then x else y) := by cases c <;> rfl
theorem QqW {α : Type} {enc : α → List CV} (c : Bool) (x : α) (J : Bool → List (List CV) → Option CV) :
  (bif !c then J false [enc x] else J true []) = J (if c then ([] : List α) else [x]).isEmpty ((if c then [] else [x]).map enc) := by cases c <;> rfl
def ienc (e : Int) : List CV := [CV.int .i64 e]
abbrev Ft := Int × Bs
def Qbb (x : Ft) : List CV := [.int .i64 x.1, .str x.2]
def brk (q : List Lg) (x : Lg) : Bool := (match q.getLast? with | some y => !(x.fro == y.to) | none => false) || (q ++ [x]).any (fun z => z.fro == x.to)
theorem Qur (an : Bool) (l q t : List Lg) (x : Lg) (h : q ++ x :: t = l) (hl : l.length ≤ 1000) : Evt fun n => Qc1 lb n n an (l.map lgcv) (q.length : Int) 0 = some (.bool (!(q ++ [x]).any (fun z => z.fro == x.to))) := by
 have hll : l.length = q.length + (t.length + 1) := by rw [← h]; simp
 have hw : IntKind.wrap .i64 ((q.length : Int) + 1) = (q.length : Int) + 1 := QaF (by omega) (by omega)
 have htk : ((l.map lgcv).take (IntKind.wrap .i64 ((q.length : Int) + 1)).toNat).drop 0 = (q ++ [x]).map lgcv := by
  rw [hw, show ((q.length : Int) + 1).toNat = q.length + 1 by omega, List.drop_zero, ← List.map_take, ← h]
  congr 1
  rw [List.take_append, List.take_of_length_le (by omega)]
  simp
 have hlast : atL (l.map lgcv) (q.length : Int) = some (lgcv x) := Qa0 (by rw [← h]; simp)
 refine Evt.diag (m := (q ++ [x]).length) (QdQ (enc := lgcv) (l := q ++ [x]) (by simp; omega) (P := fun r s n k => Qc1 lb n k an (l.map lgcv) (q.length : Int) (r.length : Int) = some (.bool (!s.any (fun z => z.fro == x.to)))) ?_ ?_ (q ++ [x]) [] rfl)
 ·refine .all fun n k => ?_
  rw [Qgd, htk, decF (by simp), cond_false, Qlz]
  rfl
 ·intro r z s hrs hlt hat hw2 hev
  refine hev.mono fun n hn k hk => ?_
  have hn := hn k hk
  rw [Qgd, htk, decT hlt, cond_true]
  simp only [hat, hlast, lgcv, QaD, QaG, QaL, Qa1, QaW, Qa6, Qa7, get0, get1, get2, get3, QaK, cond_true, cond_false, List.length_cons, List.length_nil, Nat.zero_add, Nat.reduceAdd, Nat.reduceBEq, beq_self_eq_true, Qaw, Qau, get4, hw2]
  by_cases e : z.fro = x.to
  ·rw [show (z.fro == x.to) = true by simpa using e, cond_true, decT (by omega)]
   simp [e]
  ·have e' : (z.fro == x.to) = false := by simpa using e
   rw [e', cond_false, hn]
   simp [e']
theorem Qu7 (an : Bool) (l q t : List Lg) (x : Lg) (h : q ++ x :: t = l) (hl : l.length ≤ 1000) : Ret lb QaV [.list an (l.map lgcv), .int .i64 (q.length : Int)] (.bool (!brk q x)) := by
 have hll : l.length = q.length + (t.length + 1) := by rw [← h]; simp
 have hall : (l.map lgcv).all (·.length == 5) = true := by simp [lgcv]
 have hw : IntKind.wrap .i64 ((q.length : Int) + 1) = (q.length : Int) + 1 := QaF (by omega) (by omega)
 have hlast : atL (l.map lgcv) (q.length : Int) = some (lgcv x) := Qa0 (by rw [← h]; simp)
 refine .top rfl ((Qur lb an l q t x h hl).mono fun n hn => ?_)
 rw [QnQ, hall, hw, decT (show (0 : Int) ≤ (q.length : Int) + 1 ∧ (q.length : Int) + 1 ≤ ((l.map lgcv).length : Int) by rw [List.length_map]; omega), hn]
 simp only [QaK]
 unfold brk
 rcases QgT q with rfl | ⟨q', y, rfl⟩
 ·rw [decF (by simp), cond_false]
  rfl
 ·have hwl : IntKind.wrap .i64 (((q' ++ [y]).length : Int) - 1) = (q'.length : Int) := by
   rw [List.length_append, List.length_singleton] at hll ⊢
   rw [QaF (by omega) (by omega)]
   omega
  have hpre : atL (l.map lgcv) (q'.length : Int) = some (lgcv y) := Qa0 (by rw [← h]; simp)
  rw [decT (by rw [List.length_append, List.length_singleton]; omega), cond_true, hlast, hwl, hpre]
  simp only [lgcv, QaD, QaG, QaL, Qa1, QaW, Qa6, Qa7, get0, get1, get2, get3, QaK, cond_true, cond_false, List.length_cons, List.length_nil, Nat.zero_add, Nat.reduceAdd, Nat.reduceBEq, beq_self_eq_true, Qaw, Qau, get4, List.getLast?_append, List.getLast?_singleton, Option.some_or]
  cases (x.fro == y.to) <;> rfl
theorem Qv6 (an : Bool) (l q t : List Lg) (x : Lg) (h : q ++ x :: t = l) (hl : l.length ≤ 1000) : Ret lb QbE [.list an (l.map lgcv), .int .i64 (q.length : Int)] (.bool (brk q x)) := by
 have hll : l.length = q.length + (t.length + 1) := by rw [← h]; simp
 have hlast : atL (l.map lgcv) (q.length : Int) = some (lgcv x) := Qa0 (by rw [← h]; simp)
 have key : Evt fun n => QdT lb n n an (l.map lgcv) (q.length : Int) 0 = some (.bool ((q ++ [x]).any (fun z => z.fro == x.to))) := by
  refine Evt.diag (m := (q ++ [x]).length) (QdQ (enc := lgcv) (l := q ++ [x]) (by simp; omega) (P := fun r s n k => QdT lb n k an (l.map lgcv) (q.length : Int) (r.length : Int) = some (.bool (s.any (fun z => z.fro == x.to)))) ?_ ?_ (q ++ [x]) [] rfl)
  ·refine .all fun n k => ?_
   rw [Qij, decF (by simp; omega), cond_false, Qpk]
   rfl
  ·intro r z s hrs hlt hat hw2 hev
   refine hev.mono fun n hn k hk => ?_
   have hn := hn k hk
   have hlz : l = r ++ z :: (s ++ t) := by
    rw [← h, show q ++ x :: t = (q ++ [x]) ++ t by simp, ← hrs]; simp
   have hat : atL (l.map lgcv) (r.length : Int) = some (lgcv z) := Qa0 (by rw [hlz]; simp)
   rw [Qij, decT (by simp at hlt; omega), cond_true]
   simp only [hat, hlast, lgcv, QaD, QaG, QaL, Qa1, QaW, Qa6, Qa7, get0, get1, get2, get3, QaK, cond_true, cond_false, List.length_cons, List.length_nil, Nat.zero_add, Nat.reduceAdd, Nat.reduceBEq, beq_self_eq_true, Qaw, Qau, get4, hw2]
   by_cases e : z.fro = x.to
   ·rw [show (z.fro == x.to) = true by simpa using e, cond_true]
    simp [e]
   ·have e' : (z.fro == x.to) = false := by simpa using e
    rw [e', cond_false, hn]
    simp [e']
 refine .top rfl (key.mono fun n hn => ?_)
 rw [QsE, hn]
 unfold brk
 rcases QgT q with rfl | ⟨q', y, rfl⟩
 ·rw [decF (by simp), cond_false]
  rfl
 ·have hwl : IntKind.wrap .i64 (((q' ++ [y]).length : Int) - 1) = (q'.length : Int) := by
   rw [List.length_append, List.length_singleton] at hll ⊢
   rw [QaF (by omega) (by omega)]
   omega
  have hpre : atL (l.map lgcv) (q'.length : Int) = some (lgcv y) := Qa0 (by rw [← h]; simp)
  rw [decT (by rw [List.length_append, List.length_singleton]; omega), cond_true, hlast, hwl, hpre]
  simp only [lgcv, QaD, QaG, QaL, Qa1, QaW, Qa6, Qa7, get0, get1, get2, get3, QaK, cond_true, cond_false, List.length_cons, List.length_nil, Nat.zero_add, Nat.reduceAdd, Nat.reduceBEq, beq_self_eq_true, Qaw, Qau, get4, List.getLast?_append, List.getLast?_singleton, Option.some_or]
  cases (x.fro == y.to) <;> rfl
def okM (m : Int) : Bool := decide (-1440 ≤ m ∧ m < 5760)
def QmL (p : Pc) (s : Bs) : Bool := (Qcr s p.aps).isSome
def legE (p : Pc) (q : List Lg) (x : Lg) : List Int :=
 (((if Qek x.eq 3 3 then [] else [5]) ++ (if QmL p x.fro && QmL p x.to then [] else [14])) ++ (if !brk q x then [] else [15])) ++ (if okM x.dep && okM x.arr then [] else [2])
theorem QoT (p : Pc) (q : List Lg) (x : Lg) : (legE p q x).length ≤ 4 := by
 unfold legE
 simp only [List.length_append]
 have h : ∀ (c : Bool) (e : Int), (if c then [] else [e] : List Int).length ≤ 1 := fun c e => by cases c <;> simp
 have := h (Qek x.eq 3 3) 5
 have := h (QmL p x.fro && QmL p x.to) 14
 have := h (!brk q x) 15
 have := h (okM x.dep && okM x.arr) 2
 omega
theorem Qne (c : Bool) (e : Int) : (if c then [] else [e] : List Int).length ≤ 1 := by cases c <;> simp
theorem Qzk (n : Nat) (ja : Bool) (aair2 : List (List CV)) (jb : Bool) (adis4 : List (List CV)) (ji : Bool) (b6 : List (List CV)) (c7 : Int) (wA jZ : CV) (c9 : List CV) (jR wn wm wD yI yP wK wI j1 wi x23 w6 wG wR wH yH yG yy yJ : CV) (E : List Int) (hE : E.length ≤ 1000) (d a : Bool) (h1 : C lb n QbI [wm] = some (.bool d)) (h2 : C lb n QbI [wD] = some (.bool a)) :
  QeU lb n ja aair2 jb adis4 ji b6 c7 wA jZ c9 jR wn wm wD yI yP wK wI j1 wi x23 w6 wG wR wH yH yG yy yJ E.isEmpty (E.map ienc) = some (.list (E ++ if d && a then [] else [2]).isEmpty ((E ++ if d && a then [] else [2]).map ienc)) := by
 rw [QoZ, h1, h2]
 simp only [QaD, QaG, QaL, Qa1, QaW, Qa6, Qa7, get0, get1, get2, get3, QaK, cond_true, cond_false, List.length_cons, List.length_nil, Nat.zero_add, Nat.reduceAdd, Nat.reduceBEq, beq_self_eq_true, Qaw, Qau]
 rw [Qo4]
 exact Qm4 (enc := ienc) (d && a) E 2 8 (by decide) (by omega) (fun b l => some (.list b l))
theorem QzI (n : Nat) (ja : Bool) (aair2 : List (List CV)) (jb : Bool) (adis4 : List (List CV)) (ji : Bool) (b6 : List (List CV)) (c7 : Int) (wA jZ : CV) (c9 : List CV) (jR wn wm wD yI yP wK wI j1 wi x23 w6 wG wR wH yH yG yy yJ : CV) (E : List Int) (hE : E.length ≤ 100) (f d a : Bool) (h0 : C lb n QaV [.list ji b6, .int .i64 c7] = some (.bool f)) (h1 : C lb n QbI [wm] = some (.bool d)) (h2 : C lb n QbI [wD] = some (.bool a)) :
  QeX lb n ja aair2 jb adis4 ji b6 c7 wA jZ c9 jR wn wm wD yI yP wK wI j1 wi x23 w6 wG wR wH yH yG yy yJ E.isEmpty (E.map ienc) = some (.list ((E ++ if f then [] else [15]) ++ if d && a then [] else [2]).isEmpty (((E ++ if f then [] else [15]) ++ if d && a then [] else [2]).map ienc)) := by
 rw [Qpg, h0]
 simp only [QaD, QaG, QaL, Qa1, QaW, Qa6, Qa7, get0, get1, get2, get3, QaK, cond_true, cond_false, List.length_cons, List.length_nil, Nat.zero_add, Nat.reduceAdd, Nat.reduceBEq, beq_self_eq_true, Qaw, Qau]
 refine (Qm4 (enc := ienc) f E 15 8 (by decide) (by omega) (QeU lb n ja aair2 jb adis4 ji b6 c7 wA jZ c9 jR wn wm wD yI yP wK wI j1 wi x23 w6 wG wR wH yH yG yy yJ)).trans ?_
 exact Qzk lb _ _ _ _ _ _ _ _ _ _ _ _ _ _ _ _ _ _ _ _ _ _ _ _ _ _ _ _ _ _ _ (by rw [List.length_append]; have := Qne f 15; omega) d a h1 h2
theorem Qzr (n : Nat) (ja : Bool) (aair2 : List (List CV)) (jb : Bool) (adis4 : List (List CV)) (ji : Bool) (b6 : List (List CV)) (c7 : Int) (wA jZ : CV) (c9 : List CV) (jR wn wm wD yI yP wK wI j1 wi x23 w6 wG wR wH yH yG yy yJ : CV) (E : List Int) (hE : E.length ≤ 10) (u v f d a : Bool) (hu : wA = .bool u) (hv : jZ = .bool v) (h0 : C lb n QaV [.list ji b6, .int .i64 c7] = some (.bool f)) (h1 : C lb n QbI [wm] = some (.bool d)) (h2 : C lb n QbI [wD] = some (.bool a)) :
  flight_leg_J1 lb n ja aair2 jb adis4 ji b6 c7 wA jZ c9 jR wn wm wD yI yP wK wI j1 wi x23 w6 wG wR wH yH yG yy yJ E.isEmpty (E.map ienc) = some (.list (((E ++ if u && v then [] else [14]) ++ if f then [] else [15]) ++ if d && a then [] else [2]).isEmpty ((((E ++ if u && v then [] else [14]) ++ if f then [] else [15]) ++ if d && a then [] else [2]).map ienc)) := by
 subst hu; subst hv
 rw [Qpm]
 simp only [QaD, QaG, QaL, Qa1, QaW, Qa6, Qa7, get0, get1, get2, get3, QaK, cond_true, cond_false, List.length_cons, List.length_nil, Nat.zero_add, Nat.reduceAdd, Nat.reduceBEq, beq_self_eq_true, Qaw, Qau]
 rw [Qo4]
 refine (Qm4 (enc := ienc) (u && v) E 14 8 (by decide) (by omega) _).trans ?_
 exact QzI lb _ _ _ _ _ _ _ _ _ _ _ _ _ _ _ _ _ _ _ _ _ _ _ _ _ _ _ _ _ _ _ (by rw [List.length_append]; have := Qne (u && v) 14; omega) f d a h0 h1 h2
theorem QqU (p : Pc) (hp : Qca p) (an : Bool) (l q t : List Lg) (x : Lg) (h : q ++ x :: t = l) (hl : l.length ≤ 1000) (hx : x.eq.length ≤ 281474976710656) :
  Ret lb QbU [pcv p, .list an (l.map lgcv), .int .i64 (q.length : Int)] (.list (legE p q x).isEmpty ((legE p q x).map ienc)) := by
 have hlast : atL (l.map lgcv) (q.length : Int) = some (lgcv x) := Qa0 (by rw [← h]; simp)
 refine .top rfl (Evt.imp2 (Evt.imp2 (Evt.imp2 (Qfl lb p x.fro hp.1) (Qfl lb p x.to hp.1) fun n a b => And.intro a b) (Evt.imp2 (Ql5 lb x.eq 3 3 (by omega)) (Qu7 lb an l q t x h hl) fun n a b => And.intro a b) fun n a b => And.intro a b)
  (Evt.imp2 (Qh9 lb x.dep) (Qh9 lb x.arr) fun n a b => And.intro a b) fun n h1 h2 => ?_)
 obtain ⟨⟨a1, a2⟩, a3, a4⟩ := h1
 obtain ⟨a5, a6⟩ := h2
 rw [QsD, hlast]
 refine stO _ rfl (stC rfl (stO _ rfl (stO _ rfl (stO _ rfl (stO _ rfl (stO _ rfl (stO _ a1 (stO _ rfl (stO _ rfl (stO _ rfl (stO _ rfl (stO _ rfl (stC rfl (stO _ rfl (stO _ rfl (stO _ rfl (stO _ rfl (stO _ rfl
  (stO _ a2 (stO _ rfl (stO _ rfl (stO _ rfl (stO _ rfl (stO _ rfl (stC rfl (stO _ rfl (stO _ rfl (stO _ rfl (stO _ rfl (stO _ rfl (stO _ a3 (stO _ rfl ?_))))))))))))))))))))))))))))))))
 refine (QqW (enc := ienc) (Qek x.eq 3 3) 5 _).trans ?_
 exact Qzr lb _ _ _ _ _ _ _ _ _ _ _ _ _ _ _ _ _ _ _ _ _ _ _ _ _ _ _ _ _ _ _ (by have := Qne (Qek x.eq 3 3) 5; omega) _ _ _ _ _ rfl rfl a4 a5 a6
def QfI : Bs := [99, 97, 114, 114, 105, 101, 114]
def Qe6 : Bs := [110, 117, 109, 98, 101, 114]
def wPeriod : Bs := [112, 101, 114, 105, 111, 100]
def QnP : Bs := [108, 101, 103, 115]
def wLeg : Bs := [108, 101, 103, 32]
def wDay : Bs := [100, 97, 121, 32]
def Qc7 (f : Fl) : List Ft := ((if Qdt f.car then [] else [(5, QfI)]) ++ (if !(decide (f.num < 1) || decide (f.num > 9999)) then [] else [(2, Qe6)])) ++ (if perE f.fr f.to f.days != 0 then [(perE f.fr f.to f.days, wPeriod)] else [])
def QfP (f : Fl) : List Ft := Qc7 f ++ (if decide ((f.legs.length : Int) < 1) || decide ((f.legs.length : Int) > 6) then [(4, QnP)] else [])
def Qa5 (p : Pc) : List Lg → List Lg → List Ft
 | _, [] => []
 | q, x :: t => (legE p q x).map (fun e => (e, wLeg ++ Lib.itoa (q.length : Int))) ++ Qa5 p (q ++ [x]) t
def Qcp (p : Pc) (l : List Lg) : List Int → List Ft
 | [] => []
 | d :: r => if ordF p l d then Qcp p l r else [(13, wDay ++ QnF d)]
def QaE (p : Pc) (f : Fl) : List Ft :=
 if f.legs.length < 1 ∨ f.legs.length > 6 then QfP f else
 if Qc7 f ++ Qa5 p [] f.legs = [] then Qcp p f.legs (Qar f.fr f.to f.days) else Qc7 f ++ Qa5 p [] f.legs
theorem QjX (f : Fl) : (Qc7 f).length ≤ 3 := by
 have h : ∀ (c : Bool) (e : Ft), (if c then [] else [e] : List Ft).length ≤ 1 := fun c e => by cases c <;> simp
 have h' : ∀ (c : Bool) (e : Ft), (if c then [e] else [] : List Ft).length ≤ 1 := fun c e => by cases c <;> simp
 unfold Qc7
 rw [List.length_append, List.length_append]
 have := h (Qdt f.car) (5, QfI)
 have := h (!(decide (f.num < 1) || decide (f.num > 9999))) (2, Qe6)
 have := h' (perE f.fr f.to f.days != 0) (perE f.fr f.to f.days, wPeriod)
 omega
theorem Qtk (f : Fl) (hc : f.car.length ≤ 281474976710656) : Ret lb QcQ [flcv f] (.list (QfP f).isEmpty ((QfP f).map Qbb)) := by
 have h1' : ∀ (c : Bool) (e : Ft), (if c then [] else [e] : List Ft).length ≤ 1 := fun c e => by cases c <;> simp
 refine .top rfl (Evt.imp2 (QpR lb f.car (by omega)) (QeY lb f.fr f.to f.days) fun n a1 a2 => ?_)
 rw [QuU, a1]
 simp only [QaD, QaG, QaL, Qa1, QaW, Qa6, Qa7, get0, get1, get2, get3, QaK, cond_true, cond_false, List.length_cons, List.length_nil, Nat.zero_add, Nat.reduceAdd, Nat.reduceBEq, beq_self_eq_true, Qaw, Qau]
 refine (QqW (enc := Qbb) (Qdt f.car) (5, QfI) _).trans ?_
 rw [Qrd, Qkz]
 refine (QdR (enc := Qbb) _ _ (2, Qe6) 24 (by decide) (by have := h1' (Qdt f.car) (5, QfI); omega) _).trans ?_
 rw [Qrw, a2]
 simp only [QaD, QaG, QaL, Qa1, QaW, Qa6, Qa7, get0, get1, get2, get3, QaK, cond_true, cond_false, List.length_cons, List.length_nil, Nat.zero_add, Nat.reduceAdd, Nat.reduceBEq, beq_self_eq_true, Qaw, Qau]
 have e2 : (if decide (f.num < 1) || decide (f.num > 9999) then [(2, Qe6)] else []) = (if !(decide (f.num < 1) || decide (f.num > 9999)) then [] else [((2, Qe6) : Ft)]) := by
  cases (decide (f.num < 1) || decide (f.num > 9999)) <;> rfl
 rw [e2]
 refine (QdR (enc := Qbb) _ _ (perE f.fr f.to f.days, wPeriod) 24 (by decide) (by
  have := h1' (Qdt f.car) (5, QfI)
  have := h1' (!(decide (f.num < 1) || decide (f.num > 9999))) (2, Qe6)
  rw [List.length_append]; omega) _).trans ?_
 rw [Qro, Qkz, List.length_map]
 exact (QdR (enc := Qbb) _ _ (4, QnP) 24 (by decide) (by have := QjX f; unfold Qc7 at this; omega) (fun b l => some (.list b l)))
end Go.Proofs
set_option linter.unusedSimpArgs false
namespace Go.Proofs
open Go.Am
variable (lb : Nat)
theorem Qz4 (c : Bool) (e : Ft) : (if c then [e] else [] : List Ft).length ≤ 1 := by cases c <;> simp
theorem Qmv (c : Bool) (e : Ft) : (if c then [] else [e] : List Ft).length ≤ 1 := by cases c <;> simp
def QbV (F : List Ft) : CV := .list F.isEmpty (F.map Qbb)
theorem Qqa (p : Pc) : ∀ (a r t : List Lg), Qa5 p r (a ++ t) = Qa5 p r a ++ Qa5 p (r ++ a) t
 | [], r, t => by simp [Qa5]
 | x :: a, r, t => by
  simp only [List.cons_append, Qa5, Qqa p a (r ++ [x]) t, List.append_assoc, List.nil_append]
theorem QiW (p : Pc) : ∀ (t r : List Lg), (Qa5 p r t).length ≤ 4 * t.length
 | [], r => by simp [Qa5]
 | x :: t, r => by
  have := QiW p t (r ++ [x])
  have := QoT p r x
  simp only [Qa5, List.length_append, List.length_map, List.length_cons]
  omega
theorem QoS (p : Pc) (q : List Lg) (x : Lg) : Qa5 p [] (q ++ [x]) = Qa5 p [] q ++ (legE p q x).map (fun e => (e, wLeg ++ Lib.itoa (q.length : Int))) := by
 rw [Qqa]
 simp [Qa5]
theorem Qo7 {fr days d : Int} : ∀ {k : Nat}, d ∈ upto fr days k → fr ≤ d ∧ d < fr + k
 | 0, h => by cases h
 | k + 1, h => by
  simp only [upto, List.mem_append] at h
  rcases h with h | h
  ·have := Qo7 h; omega
  ·split at h
   ·have : d = fr + k := by simpa using h
    omega
   ·cases h
theorem QdF {fr to days d : Int} (h : d ∈ Qar fr to days) : 0 ≤ d ∧ d < 36525 ∧ hasF fr to days d = true := by
 unfold Qar at h
 split at h
 ·rename_i h0
  obtain ⟨a0, a1, a2, a3, a4, a5⟩ := QcR h0
  have hm := Qo7 h
  refine ⟨by omega, by omega, ?_⟩
  have on : ∀ {k : Nat}, d ∈ upto fr days k → onF days d = true := by
   intro k
   induction k with
   | zero => intro h; cases h
   | succ k ih =>
    intro h
    simp only [upto, List.mem_append] at h
    rcases h with h | h
    ·exact ih h
    ·split at h
     ·have : d = fr + k := by simpa using h
      rw [this]; assumption
     ·cases h
  unfold hasF
  rw [decT h0, decT (by omega), decT (by omega), on h]
  rfl
 ·cases h
theorem QgO (fr to days : Int) : (Qar fr to days).length ≤ 800 := by
 unfold Qar
 split
 ·rename_i h0
  obtain ⟨a0, a1, a2, a3, a4, a5⟩ := QcR h0
  have := Qrt fr days (to + 1 - fr).toNat
  omega
 ·simp
theorem Qxo (p : Pc) (f : Fl) (d : Int) : ordG true 0 ((QjL p f d).map fun x => (x.dep, x.arr)) = ordF p f.legs d := by
 unfold ordF QjL
 rw [List.map_map]
 rfl
theorem QAe (n yh : Nat) (ja : Bool) (aair2 : List (List CV)) (jb : Bool) (adis4 : List (List CV)) (jh : List UInt8) (jg jd jf jc : Int) (je : Bool) (bleg12 : List (List CV)) (wN : Int) (s370 : List UInt8) (vg vh : CV) (wB : Bool × List (List CV)) (c363 : List CV) (yu yv yr yt yB yM vc vm y9 vl vw vG vF vH vu vD vt vC vA vE : CV) (F : List Ft) (hF : F.length ≤ 1000) (d a : Bool) (h1 : C lb n QdE [yr] = some (.bool d)) (h2 : C lb n QdE [yt] = some (.bool a)) :
  Qg2 lb n yh ja aair2 jb adis4 jh jg jd jf jc je bleg12 wN s370 vg vh wB c363 yu yv yr yt yB yM vc vm y9 vl vw vG vF vH vu vD vt vC vA vE F.isEmpty (F.map Qbb) = Qb5 lb n yh ja aair2 jb adis4 jh jg jd jf jc je bleg12 wB (F ++ if d || a then [(2, wLeg ++ s370)] else []).isEmpty ((F ++ if d || a then [(2, wLeg ++ s370)] else []).map Qbb) (IntKind.wrap .i64 (wN + 1)) := by
 rw [QpD, h1, h2]
 simp only [QaD, QaG, QaL, Qa1, QaW, Qa6, Qa7, get0, get1, get2, get3, QaK, cond_true, cond_false, List.length_cons, List.length_nil, Nat.zero_add, Nat.reduceAdd, Nat.reduceBEq, beq_self_eq_true, Qaw, Qau]
 rw [Qkz]
 exact QdR (enc := Qbb) (d || a) F (2, wLeg ++ s370) 24 (by decide) (by omega) (fun b l => Qb5 lb n yh ja aair2 jb adis4 jh jg jd jf jc je bleg12 wB b l (IntKind.wrap .i64 (wN + 1)))
theorem QzS (n yh : Nat) (ja : Bool) (aair2 : List (List CV)) (jb : Bool) (adis4 : List (List CV)) (jh : List UInt8) (jg jd jf jc : Int) (je : Bool) (bleg12 : List (List CV)) (wN : Int) (s370 : List UInt8) (vg vh : CV) (wB : Bool × List (List CV)) (c363 : List CV) (yu yv yr yt yB yM vc vm y9 vl vw vG vF vH vu vD vt vC vA vE : CV) (F : List Ft) (hF : F.length ≤ 900) (b d a : Bool) (h0 : C lb n QbE [.list je bleg12, .int .i64 wN] = some (.bool b)) (h1 : C lb n QdE [yr] = some (.bool d)) (h2 : C lb n QdE [yt] = some (.bool a)) :
  QfF lb n yh ja aair2 jb adis4 jh jg jd jf jc je bleg12 wN s370 vg vh wB c363 yu yv yr yt yB yM vc vm y9 vl vw vG vF vH vu vD vt vC vA vE F.isEmpty (F.map Qbb) = Qb5 lb n yh ja aair2 jb adis4 jh jg jd jf jc je bleg12 wB ((F ++ if b then [(15, wLeg ++ s370)] else []) ++ if d || a then [(2, wLeg ++ s370)] else []).isEmpty
   (((F ++ if b then [(15, wLeg ++ s370)] else []) ++ if d || a then [(2, wLeg ++ s370)] else []).map Qbb) (IntKind.wrap .i64 (wN + 1)) := by
 rw [Qqy, h0]
 simp only [QaD, QaG, QaL, Qa1, QaW, Qa6, Qa7, get0, get1, get2, get3, QaK, cond_true, cond_false, List.length_cons, List.length_nil, Nat.zero_add, Nat.reduceAdd, Nat.reduceBEq, beq_self_eq_true, Qaw, Qau]
 refine (QdR (enc := Qbb) b F (15, wLeg ++ s370) 24 (by decide) (by omega) _).trans ?_
 have hl : (F ++ if b then [(15, wLeg ++ s370)] else []).length ≤ 1000 := by rw [List.length_append]; have := Qz4 b (15, wLeg ++ s370); omega
 generalize (F ++ if b then [(15, wLeg ++ s370)] else []) = F1 at hl
 apply QAe
 ·exact hl
 ·exact h1
 ·exact h2
theorem QzT (n yh : Nat) (ja : Bool) (aair2 : List (List CV)) (jb : Bool) (adis4 : List (List CV)) (jh : List UInt8) (jg jd jf jc : Int) (je : Bool) (bleg12 : List (List CV)) (wN : Int) (s370 : List UInt8) (wB : Bool × List (List CV)) (c363 : List CV) (yu yv yr yt yB yM : CV) (F : List Ft) (hF : F.length ≤ 800) (sa sb : Bs) (aps : List Ap) (b d a : Bool)
  (h3 : C lb n QbJ [.agg [.list ja aair2, .list jb adis4], yu] = some (Qhd sa aps)) (h4 : C lb n QbJ [.agg [.list ja aair2, .list jb adis4], yv] = some (Qhd sb aps))
  (h0 : C lb n QbE [.list je bleg12, .int .i64 wN] = some (.bool b)) (h1 : C lb n QdE [yr] = some (.bool d)) (h2 : C lb n QdE [yt] = some (.bool a)) :
  Qhg lb n yh ja aair2 jb adis4 jh jg jd jf jc je bleg12 wN s370 wB c363 yu yv yr yt yB yM F.isEmpty (F.map Qbb) = Qb5 lb n yh ja aair2 jb adis4 jh jg jd jf jc je bleg12 wB
   (((F ++ if (Qcr sa aps).isSome && (Qcr sb aps).isSome then [] else [(14, wLeg ++ s370)]) ++ if b then [(15, wLeg ++ s370)] else []) ++ if d || a then [(2, wLeg ++ s370)] else []).isEmpty
   ((((F ++ if (Qcr sa aps).isSome && (Qcr sb aps).isSome then [] else [(14, wLeg ++ s370)]) ++ if b then [(15, wLeg ++ s370)] else []) ++ if d || a then [(2, wLeg ++ s370)] else []).map Qbb) (IntKind.wrap .i64 (wN + 1)) := by
 rw [Qqq]
 refine stO _ h3 (stO _ rfl (stO _ rfl (stO _ rfl (stO _ rfl (stO _ rfl (stC rfl (stO _ rfl (stO _ rfl (stO _ rfl (stO _ rfl (stO _ rfl (stO _ h4 (stO _ rfl (stO _ rfl (stO _ rfl (stO _ rfl (stO _ rfl (stC rfl (stO _ rfl (stO _ rfl (stO _ rfl (stO _ rfl (stO _ rfl (stO _ rfl ?_))))))))))))))))))))))))
 refine (Qo4 _ _ _ _).trans ?_
 refine (Qm4 (enc := Qbb) ((Qcr sa aps).isSome && (Qcr sb aps).isSome) F (14, wLeg ++ s370) 24 (by decide) (by omega) _).trans ?_
 have hl : (F ++ if (Qcr sa aps).isSome && (Qcr sb aps).isSome then [] else [(14, wLeg ++ s370)]).length ≤ 900 := by rw [List.length_append]; have := Qmv ((Qcr sa aps).isSome && (Qcr sb aps).isSome) (14, wLeg ++ s370); omega
 generalize (F ++ if (Qcr sa aps).isSome && (Qcr sb aps).isSome then [] else [(14, wLeg ++ s370)]) = F1 at hl
 apply QzS
 ·exact hl
 ·exact h0
 ·exact h1
 ·exact h2
theorem QxU (p : Pc) (q : List Lg) (x : Lg) (s : Bs) : (legE p q x).map (fun e => (e, s)) =
  (((if Qek x.eq 3 3 then [] else [(5, s)]) ++ (if (Qcr x.fro p.aps).isSome && (Qcr x.to p.aps).isSome then [] else [(14, s)])) ++ (if brk q x then [(15, s)] else [])) ++ (if !okM x.dep || !okM x.arr then [((2, s) : Ft)] else []) := by
 unfold legE QmL
 cases Qek x.eq 3 3 <;> cases (Qcr x.fro p.aps).isSome && (Qcr x.to p.aps).isSome <;> cases brk q x <;> cases okM x.dep <;> cases okM x.arr <;> rfl
theorem Qy6 (d : Int) (f : Fl) (p : Pc) (hp : Qca p) (hl : f.legs.length ≤ 1000) (h : 0 ≤ d ∧ d < 36525) : Evt fun n => (C lb n Qch [pcv p, flcv f, .int .i64 d] = some (.list f.legs.isEmpty ((QjL p f d).map dtcv)) ∧
  C lb n QbA [.list f.legs.isEmpty ((QjL p f d).map dtcv)] = some (.bool (ordF p f.legs d))) ∧ C lb n Qh2 [.int .i64 d] = some (.str (QnF d)) := by
 refine Evt.and (Evt.and (Qtb lb p hp f hl d) ?_) (QsU lb d h.1 h.2)
 have := Qp7 lb f.legs.isEmpty (QjL p f d) (by unfold QjL; rw [List.length_map]; exact hl)
 rw [Qxo] at this
 exact this
theorem QmZ (d : Int) : (QnF d).length = 10 := rfl
theorem QyG (p : Pc) (hp : Qca p) (f : Fl) (hl : f.legs.length ≤ 1000) (vk : Int) (wB : Bool × List (List CV)) (b0 : Bool) (D : List Int) (hD : D.length ≤ 800) (hd : ∀ d ∈ D, 0 ≤ d ∧ d < 36525) :
  Evt fun n => QdN lb n n p.an (p.aps.map apcv) p.dn (p.dis.map dicv) f.car f.num f.fr f.to f.days f.ln (f.legs.map lgcv) vk (.list b0 (dcv D)) wB true [] 0 = some (QbV (Qcp p f.legs D)) := by
 refine Evt.diag (m := D.length) (QdQ (enc := ienc) (l := D) (by omega) (P := fun q t n k => QdN lb n k p.an (p.aps.map apcv) p.dn (p.dis.map dicv) f.car f.num f.fr f.to f.days f.ln (f.legs.map lgcv) vk (.list b0 (dcv D)) wB true [] (q.length : Int) = some (QbV (Qcp p f.legs t))) ?_ ?_ D [] rfl)
 ·refine .all fun n k => ?_
  rw [Qeo]
  refine stT rfl (stO _ rfl (stF (decF (by simp [dcv])) ?_))
  rw [Qg0]
  rfl
 ·intro q d t hq hlt hat hw hev
  refine Evt.imp2 hev (Qy6 lb d f p hp hl (hd d (by rw [← hq]; simp))) fun n hn hc k hk => ?_
  have hn := hn k hk
  obtain ⟨⟨c1, c2⟩, c3⟩ := hc
  have hat : atL (dcv D) (q.length : Int) = some [.int .i64 d] := hat
  have hlt : (q.length : Int) < ((dcv D).length : Int) := hlt
  rw [Qeo]
  refine stT rfl (stO _ rfl (stT (decT hlt) (stO _ rfl (stO _ hat (stC rfl (stO _ rfl (stO _ c1 (stO _ c2 (stO _ rfl ?_)))))))))
  unfold Qcp
  cases ho : ordF p f.legs d with
  | true =>
   rw [hw]
   exact hn
  | false =>
   refine stT rfl (stO _ rfl (stO _ hat (stC rfl (stO _ rfl (stO _ c3 (stO _ rfl (stC (decT (by rw [QmZ]; decide)) (stC rfl ?_))))))))
   obtain ⟨k, rfl⟩ : ∃ m, k = m + 1 := ⟨k - 1, by omega⟩
   rw [Qeo]
   refine stF rfl ?_
   rw [Qg0]
   rfl
theorem Qzf (p : Pc) (hp : Qca p) (f : Fl) (hl : f.legs.length ≤ 6) (hx : ∀ x ∈ f.legs, x.eq.length ≤ 281474976710656) (wB : Bool × List (List CV)) (H : List Ft) (hH : H.length ≤ 10) :
  Evt fun n => Qb5 lb n n p.an (p.aps.map apcv) p.dn (p.dis.map dicv) f.car f.num f.fr f.to f.days f.ln (f.legs.map lgcv) wB H.isEmpty (H.map Qbb) 0 = some (QbV (if H ++ Qa5 p [] f.legs = [] then Qcp p f.legs (Qar f.fr f.to f.days) else H ++ Qa5 p [] f.legs)) := by
 have key := QdQ (enc := lgcv) (l := f.legs) (by omega) (P := fun q t n k => Qb5 lb n k p.an (p.aps.map apcv) p.dn (p.dis.map dicv) f.car f.num f.fr f.to f.days f.ln (f.legs.map lgcv) wB (H ++ Qa5 p [] q).isEmpty ((H ++ Qa5 p [] q).map Qbb) (q.length : Int) =
   some (QbV (if H ++ Qa5 p [] f.legs = [] then Qcp p f.legs (Qar f.fr f.to f.days) else H ++ Qa5 p [] f.legs))) (by
  refine Evt.imp2 (Evt.and (QmI lb f.fr f.to f.days) (Evt.ge 1)) (QyG lb p hp f (by omega) (f.legs.length : Int) wB (Qar f.fr f.to f.days).isEmpty (Qar f.fr f.to f.days) (QgO _ _ _) fun d hd => ⟨(QdF hd).1, (QdF hd).2.1⟩) fun n h1 h2 k => ?_
  rw [QiL]
  refine stF (decF (by simp)) ?_
  rw [QqD]
  refine stO _ h1.1 ?_
  generalize H ++ Qa5 p [] f.legs = F
  cases F with
  | nil =>
   rw [if_pos rfl]
   exact h2
  | cons e F =>
   rw [if_neg (by simp)]
   obtain ⟨m, hm⟩ : ∃ m, n = m + 1 := ⟨n - 1, by omega⟩
   have : ∀ k', k' = n → QdN lb n k' p.an (p.aps.map apcv) p.dn (p.dis.map dicv) f.car f.num f.fr f.to f.days f.ln (f.legs.map lgcv) (f.legs.length : Int) (.list (Qar f.fr f.to f.days).isEmpty (dcv (Qar f.fr f.to f.days))) wB (e :: F).isEmpty ((e :: F).map Qbb) 0 = some (QbV (e :: F)) := by
    intro k' ek
    rw [show k' = m + 1 by omega, Qeo]
    refine stF (beqF (by simp; omega)) ?_
    rw [Qg0]
    rfl
   exact this n rfl) (by
  intro q x t hq hlt hat hw hev
  have hll : f.legs.length = q.length + (t.length + 1) := by rw [← hq]; simp
  have hil := Qea (z := (q.length : Int)) (by omega) (by omega)
  have hF : (H ++ Qa5 p [] q).length ≤ 100 := by rw [List.length_append]; have := QiW p q []; omega
  refine Evt.imp2 hev (Evt.imp2 (Evt.imp2 (Evt.imp2 (Qjt lb p x.fro hp.1) (Qjt lb p x.to hp.1) fun n a b => And.intro a b) (Evt.imp2 (QmD lb x.eq 3 3 (by have := hx x (by rw [← hq]; simp); omega)) (Qv6 lb f.ln f.legs q t x hq (by omega)) fun n a b => And.intro a b) fun n a b => And.intro a b)
   (Evt.imp2 (Evt.imp2 (Qox lb x.dep) (Qox lb x.arr) fun n a b => And.intro a b) (Qfg lb (q.length : Int) (by omega) (by omega)) fun n a b => And.intro a b) fun n a b => And.intro a b) fun n hn hc k hk => ?_
  obtain ⟨⟨⟨a1, a2⟩, a3, a4⟩, ⟨a5, a6⟩, a7⟩ := hc
  have hn := hn k hk
  rw [QiL]
  refine stT (decT hlt) (stO _ hat (stC rfl (stO _ rfl (stO _ rfl (stO _ rfl (stO _ rfl (stO _ rfl (stO _ a7 (stO _ rfl (stC (decT (by simp; omega)) (stO _ a3 (stO _ rfl ?_))))))))))))
  refine (Qm4 (enc := Qbb) (Qek x.eq 3 3) (H ++ Qa5 p [] q) (5, wLeg ++ Lib.itoa (q.length : Int)) 24 (by decide) (by omega) _).trans ?_
  refine (QzT lb (hF := by rw [List.length_append]; have := Qmv (Qek x.eq 3 3) (5, wLeg ++ Lib.itoa (q.length : Int)); omega) (h3 := a1) (h4 := a2) (h0 := a4) (h1 := a5) (h2 := a6) ..).trans ?_
  rw [QoS, ← List.append_assoc, QxU, ← hw] at hn
  simp only [List.append_assoc] at hn ⊢
  exact hn) f.legs [] rfl
 refine (Evt.diag key).mono fun n hn => ?_
 simpa [Qa5] using hn
theorem Qx4 (f : Fl) (h : ¬ (f.legs.length < 1 ∨ f.legs.length > 6)) : QfP f = Qc7 f := by
 unfold QfP
 rw [decF (by omega), decF (by omega)]
 simp
theorem QsN (p : Pc) (hp : Qca p) (f : Fl) (hc : f.car.length ≤ 281474976710656) (hx : ∀ x ∈ f.legs, x.eq.length ≤ 281474976710656) : Ret lb Qan [pcv p, flcv f] (QbV (QaE p f)) := by
 refine .top rfl (.eq (fun n => by rw [QtY]) ?_)
 refine .call (Qtk lb f hc) ?_
 simp only [QaW, QaD, List.length_map]
 unfold QaE
 by_cases h : f.legs.length < 1 ∨ f.legs.length > 6
 ·rw [if_pos h]
  refine .all fun n => ?_
  refine (Qkz _ _ _ _).trans (stT (by rw [Bool.or_eq_true, decide_eq_true_eq, decide_eq_true_eq]; omega) rfl)
 ·rw [if_neg h]
  refine (Qzf lb p hp f (by omega) hx ((QfP f).isEmpty, (QfP f).map Qbb) (Qc7 f) (by have := QjX f; omega)).mono fun n hn => ?_
  refine stF (decF (by omega)) (stF (decF (by omega)) ?_)
  rw [Qx4 f h] at hn ⊢
  exact hn
end Go.Proofs
set_option linter.unusedSimpArgs false
namespace Go.Proofs
open Go.Am
variable (lb : Nat)
theorem QtL (p : Pc) (f : Fl) (wT : CV) (i : Nat) (hi : i ≤ 100) (E : List Int) (hE : E.length ≤ 1000) (F : List Ft) (hF : F.length ≤ 10000) (r : CV) :
  ∀ u q, q ++ u = E → Evt fun n => ∀ j k, u.length < j →
   Qdq lb n k p.an (p.aps.map apcv) p.dn (p.dis.map dicv) f.car f.num f.fr f.to f.days f.ln (f.legs.map lgcv) wT (IntKind.wrap .i64 ((i : Int) + 1)) (F ++ E.map fun e => (e, wLeg ++ Lib.itoa (i : Int))).isEmpty ((F ++ E.map fun e => (e, wLeg ++ Lib.itoa (i : Int))).map Qbb) = some r →
   Qfp lb n j k p.an (p.aps.map apcv) p.dn (p.dis.map dicv) f.car f.num f.fr f.to f.days f.ln (f.legs.map lgcv) wT (i : Int) (.list E.isEmpty (E.map ienc)) (E.isEmpty, E.map ienc) (q.length : Int) (F ++ q.map fun e => (e, wLeg ++ Lib.itoa (i : Int))).isEmpty ((F ++ q.map fun e => (e, wLeg ++ Lib.itoa (i : Int))).map Qbb) = some r
 | [], q, h => .all fun n j k hj hr => by
  obtain ⟨j, rfl⟩ : ∃ m, j = m + 1 := ⟨j - 1, by simp at hj; omega⟩
  have h : q = E := by simpa using h
  subst h
  rw [QgS]
  refine stF (decF (by simp)) ?_
  rw [Qna]
  exact hr
 | e :: u, q, h => by
  have hq : E.length = q.length + (u.length + 1) := by rw [← h]; simp
  have hat : atL (E.map ienc) (q.length : Int) = some (ienc e) := Qa0 (by rw [← h]; simp)
  have hil := Qea (z := (i : Int)) (by omega) (by omega)
  refine (Evt.imp2 (QtL p f wT i hi E hE F hF r u (q ++ [e]) (by rw [← h]; simp)) (Qpb lb (i : Int) (by omega) (by omega)) fun n h1 h2 => ?_)
  intro j k hj hr
  obtain ⟨j, rfl⟩ : ∃ m, j = m + 1 := ⟨j - 1, by simp at hj; omega⟩
  have h1 := h1 j k (by simp at hj; omega) hr
  rw [QgS]
  refine stT (decT (by simp; omega)) (stO _ rfl (stO _ hat (stC rfl (stO _ rfl (stO _ h2 (stO _ rfl (stC (decT (by simp; omega)) (stC rfl (stC (Qb4 (by simp; omega) (by omega)) ?_)))))))))
  rw [QaF (by omega) (by omega), show (q.length : Int) + 1 = ((q ++ [e]).length : Int) by simp, QcB (F ++ q.map fun e => (e, wLeg ++ Lib.itoa (i : Int))) (e, wLeg ++ Lib.itoa (i : Int))]
  simpa [List.map_append, List.append_assoc, Qbb, wLeg] using h1
theorem QzF (d : Int) (f : Fl) (p : Pc) (hp : Qca p) (hl : f.legs.length ≤ 1000) (h : 0 ≤ d ∧ d < 36525) : Evt fun n => C lb n Qbg [pcv p, .list f.ln (f.legs.map lgcv), .int .i64 d] = some (.bool (ordF p f.legs d)) ∧ C lb n QeR [.int .i64 d] = some (.str (QnF d)) :=
 Evt.and (Qmq lb p hp f.ln f.legs hl d) (QmV lb d h.1 h.2)
theorem Qy9 (p : Pc) (hp : Qca p) (f : Fl) (hl : f.legs.length ≤ 1000) (wT : CV) (b0 : Bool) (D : List Int) (hD : D.length ≤ 800) (hd : ∀ d ∈ D, 0 ≤ d ∧ d < 36525) :
  Evt fun n => Qd0 lb n n p.an (p.aps.map apcv) p.dn (p.dis.map dicv) f.car f.num f.fr f.to f.days f.ln (f.legs.map lgcv) wT (.list b0 (dcv D)) (b0, dcv D) true [] 0 = some (QbV (Qcp p f.legs D)) := by
 refine Evt.diag (m := D.length) (QdQ (enc := ienc) (l := D) (by omega) (P := fun q t n k => Qd0 lb n k p.an (p.aps.map apcv) p.dn (p.dis.map dicv) f.car f.num f.fr f.to f.days f.ln (f.legs.map lgcv) wT (.list b0 (dcv D)) (b0, dcv D) true [] (q.length : Int) = some (QbV (Qcp p f.legs t))) ?_ ?_ D [] rfl)
 ·refine .all fun n k => ?_
  rw [QgU]
  refine stF (decF (by simp [dcv])) ?_
  rw [Qmh]
  rfl
 ·intro q d t hq hlt hat hw hev
  refine Evt.imp2 hev (QzF lb d f p hp hl (hd d (by rw [← hq]; simp))) fun n hn hc k hk => ?_
  have hn := hn k hk
  obtain ⟨c1, c2⟩ := hc
  have hat : atL (dcv D) (q.length : Int) = some [.int .i64 d] := hat
  have hlt : (q.length : Int) < ((dcv D).length : Int) := hlt
  rw [QgU]
  refine stT (decT hlt) (stO _ rfl (stO _ hat (stC rfl (stO _ rfl (stO _ c1 (stO _ rfl ?_))))))
  unfold Qcp
  cases ho : ordF p f.legs d with
  | true =>
   rw [hw]
   exact hn
  | false =>
   refine stT rfl (stO _ c2 (stO _ rfl (stC (decT (by rw [QmZ]; decide)) (stC rfl ?_))))
   rw [Qnx]
   rfl
theorem Qzd (p : Pc) (hp : Qca p) (f : Fl) (hl : f.legs.length ≤ 6) (hx : ∀ x ∈ f.legs, x.eq.length ≤ 281474976710656) (wT : CV) (H : List Ft) (hH : H.length ≤ 10) :
  Evt fun n => Qdq lb n n p.an (p.aps.map apcv) p.dn (p.dis.map dicv) f.car f.num f.fr f.to f.days f.ln (f.legs.map lgcv) wT 0 H.isEmpty (H.map Qbb) = some (QbV (if H ++ Qa5 p [] f.legs = [] then Qcp p f.legs (Qar f.fr f.to f.days) else H ++ Qa5 p [] f.legs)) := by
 have key := QdQ (enc := lgcv) (l := f.legs) (by omega) (P := fun q t n k => Qdq lb n k p.an (p.aps.map apcv) p.dn (p.dis.map dicv) f.car f.num f.fr f.to f.days f.ln (f.legs.map lgcv) wT (q.length : Int) (H ++ Qa5 p [] q).isEmpty ((H ++ Qa5 p [] q).map Qbb) =
   some (QbV (if H ++ Qa5 p [] f.legs = [] then Qcp p f.legs (Qar f.fr f.to f.days) else H ++ Qa5 p [] f.legs))) (by
  refine Evt.imp2 (Qka lb f.fr f.to f.days) (Qy9 lb p hp f (by omega) wT (Qar f.fr f.to f.days).isEmpty (Qar f.fr f.to f.days) (QgO _ _ _) fun d hd => ⟨(QdF hd).1, (QdF hd).2.1⟩) fun n h1 h2 k => ?_
  rw [Qg3]
  refine stF (decF (by simp)) ?_
  rw [Qm2]
  generalize H ++ Qa5 p [] f.legs = F
  cases F with
  | nil =>
   rw [if_pos rfl]
   exact stF rfl (stO _ h1 (stO _ rfl h2))
  | cons e F =>
   rw [if_neg (by simp)]
   exact stT (decT (by simp)) rfl) (by
  intro q x t hq hlt hat hw hev
  have hll : f.legs.length = q.length + (t.length + 1) := by rw [← hq]; simp
  have hF : (H ++ Qa5 p [] q).length ≤ 100 := by rw [List.length_append]; have := QiW p q []; omega
  have inner := QtL lb p f wT q.length (by omega) (legE p q x) (by have := QoT p q x; omega) (H ++ Qa5 p [] q) (by omega) (QbV (if H ++ Qa5 p [] f.legs = [] then Qcp p f.legs (Qar f.fr f.to f.days) else H ++ Qa5 p [] f.legs)) (legE p q x) [] rfl
  refine Evt.imp2 hev (Evt.imp2 (inner.and (Evt.ge 5)) (QqU lb p hp f.ln f.legs q t x hq (by omega) (hx x (by rw [← hq]; simp))) fun n a b => And.intro a b) fun n hn hc k hk => ?_
  obtain ⟨⟨a1, a2⟩, a3⟩ := hc
  have hn := hn k hk
  have hlE := QoT p q x
  rw [Qg3]
  refine stT (decT hlt) (stO _ a3 (stO _ rfl ?_))
  rw [QoS, ← List.append_assoc] at hn
  have a1 := a1 n k (by omega) (by rw [hw]; exact hn)
  simpa using a1) f.legs [] rfl
 refine (Evt.diag key).mono fun n hn => ?_
 simpa [Qa5] using hn
theorem QzW (p : Pc) (hp : Qca p) (f : Fl) (hx : ∀ x ∈ f.legs, x.eq.length ≤ 281474976710656) (wT : CV) :
  Evt fun n => Qfj lb n p.an (p.aps.map apcv) p.dn (p.dis.map dicv) f.car f.num f.fr f.to f.days f.ln (f.legs.map lgcv) wT (Qc7 f).isEmpty ((Qc7 f).map Qbb) = some (QbV (QaE p f)) := by
 have hg := QjX f
 unfold QaE
 by_cases h : f.legs.length < 1 ∨ f.legs.length > 6
 ·rw [if_pos h]
  refine .all fun n => ?_
  rw [Qii]
  have e : QfP f = Qc7 f ++ [(4, QnP)] := by
   unfold QfP
   rw [if_pos (by rw [Bool.or_eq_true, decide_eq_true_eq, decide_eq_true_eq]; omega)]
  rw [e]
  refine (Qkz _ _ _ _).trans (stT (by rw [Bool.or_eq_true, beq_iff_eq, decide_eq_true_eq, List.length_map]; omega) (stC (Qb4 (by simp; omega) (by omega)) ?_))
  rw [QcB (Qc7 f) (4, QnP)]
  simp [QbV, Qbb, QnP]
 ·rw [if_neg h]
  refine (Qzd lb p hp f (by omega) hx wT (Qc7 f) (by omega)).mono fun n hn => ?_
  rw [Qii]
  refine stF (beqF (by rw [List.length_map]; omega)) (stF (decF (by rw [List.length_map]; omega)) ?_)
  exact hn
theorem QgF (p : Pc) (hp : Qca p) (f : Fl) (hc : f.car.length ≤ 281474976710656) (hx : ∀ x ∈ f.legs, x.eq.length ≤ 281474976710656) : Ret lb Qak [pcv p, flcv f] (QbV (QaE p f)) := by
 refine .top rfl (Evt.imp2 (Evt.imp2 (Qpa lb f.car (by omega)) (QbH lb f.fr f.to f.days) fun n a b => And.intro a b) (QzW lb p hp f hx (.int .i64 (perE f.fr f.to f.days))) fun n hc h3 => ?_)
 obtain ⟨a1, a2⟩ := hc
 rw [QpY]
 refine stO _ a1 (stO _ rfl ?_)
 refine (QqW (enc := Qbb) (Qdt f.car) (5, QfI) _).trans ?_
 rw [QmT, Qkz]
 refine (QdR (enc := Qbb) _ _ (2, Qe6) 24 (by decide) (by have := Qmv (Qdt f.car) (5, QfI); omega) _).trans ?_
 rw [Qm9]
 refine stO _ a2 (stO _ rfl ?_)
 have e2 : (if decide (f.num < 1) || decide (f.num > 9999) then [(2, Qe6)] else []) = (if !(decide (f.num < 1) || decide (f.num > 9999)) then [] else [((2, Qe6) : Ft)]) := by
  cases (decide (f.num < 1) || decide (f.num > 9999)) <;> rfl
 rw [e2]
 simp only [Qau, QaK]
 refine (QdR (enc := Qbb) _ _ (perE f.fr f.to f.days, wPeriod) 24 (by decide) (by
  have := Qmv (Qdt f.car) (5, QfI)
  have := Qmv (!(decide (f.num < 1) || decide (f.num > 9999))) (2, Qe6)
  rw [List.length_append]; omega) _).trans ?_
 exact h3
end Go.Proofs
