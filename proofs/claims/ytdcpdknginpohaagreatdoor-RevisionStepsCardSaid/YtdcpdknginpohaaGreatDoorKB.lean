/- Chapter 3 on plain data: the date of a day, by the program and by its reference. Conditions: as each says. -/
import Derived.Test.YtdcpdknginpohaaGreatDoorKA
import Derived.Test.YtdcpdknginpohaaGreatDoorGb
import Derived.Test.YtdcpdknginpohaaGreatDoorRn
set_option linter.unusedSimpArgs false
namespace Go.Proofs
open Go.Am
variable (lb : Nat)
def lenF (y m : Int) : Int := if m = 2 then (if Int.tmod y 4 = 0 then 29 else 28) else if m = 4 ∨ m = 6 ∨ m = 9 ∨ m = 11 then 30 else 31
theorem QwM (y m : Int) (h : 1 ≤ m ∧ m ≤ 12) : Qi5 y m = some (lenF y m) := by
 have : m = 1 ∨ m = 2 ∨ m = 3 ∨ m = 4 ∨ m = 5 ∨ m = 6 ∨ m = 7 ∨ m = 8 ∨ m = 9 ∨ m = 10 ∨ m = 11 ∨ m = 12 := by omega
 rcases this with rfl | rfl | rfl | rfl | rfl | rfl | rfl | rfl | rfl | rfl | rfl | rfl
 ·rfl
 ·unfold Qi5 lenF
  by_cases h : Int.tmod y 4 = 0
  ·rw [if_pos ⟨rfl, h⟩, if_pos rfl, if_pos h]
  ·rw [if_neg (fun q => h q.2), if_pos (by decide), if_pos rfl, if_neg h]
   rfl
 all_goals rfl
theorem Qmw (y m : Int) (h : 1 ≤ m ∧ m ≤ 12) : Ret lb Qem [.int .i64 y, .int .i64 m] (.int .i64 (lenF y m)) :=
 .lib (s := QiO) rfl (by
  show (Qi5 y m).map (CV.int .i64 ·) = _
  rw [QwM y m h]; rfl)
theorem QhN (y m : Int) : Ret lb QcQ [.int .i64 y, .int .i64 m] (.int .i64 (lenF y m)) := by
 refine .top rfl (.eq (fun n => by rw [Qs0]) (.all fun n => ?_))
 unfold lenF
 simp only [Qpq]
 by_cases h4 : m = 4
 ·subst h4; rfl
 by_cases h6 : m = 6
 ·subst h6; rfl
 by_cases h9 : m = 9
 ·subst h9; rfl
 rw [beqF h4, cond_false, beqF h6, cond_false, beqF h9, cond_false]
 by_cases h11 : m = 11
 ·subst h11; rfl
 rw [beqF h11, cond_false]
 by_cases h2 : m = 2
 ·subst h2
  rw [beqT rfl, cond_true, if_pos rfl]
  by_cases h : Int.tmod y 4 = 0
  ·rw [beqT h, cond_true, if_pos h]
  ·rw [beqF h, cond_false, if_neg h]
 ·rw [beqF h2, cond_false, if_neg h2, if_neg (by omega)]
theorem QdH (y m : Int) : 28 ≤ lenF y m ∧ lenF y m ≤ 31 := by
 unfold lenF
 split
 ·split <;> omega
 ·split <;> omega
def Qa5 (y : Int) : Int := 365 * (y - 2000) + Int.tdiv (y - 2000 + 3) 4
theorem Qij (y : Int) (h : 2000 ≤ y ∧ y ≤ 2200) : Ret lb QeS [.int .i64 y] (.int .i64 (Qa5 y)) := by
 refine .top rfl (.eq (fun n => by rw [Qoi]) (.of ?_))
 have h1 : 0 ≤ Int.tdiv (y - 2000 + 3) 4 := Int.tdiv_nonneg (by omega) (by omega)
 have h2 : Int.tdiv (y - 2000 + 3) 4 ≤ 300 := by rw [Int.tdiv_eq_ediv_of_nonneg (by omega)]; omega
 rw [Qaz (x := y - 2000) (by omega) (by omega), Qaz (x := 365 * (y - 2000)) (by omega) (by omega), Qaz (x := y - 2000 + 3) (by omega) (by omega), Qaz (x := Int.tdiv (y - 2000 + 3) 4) (by omega) (by omega), Qaz (by omega) (by omega)]
 rfl
theorem QkE (y : Int) (h : 2000 ≤ y) : Qa5 (y + 1) = Qa5 y + (if Int.tmod y 4 = 0 then 366 else 365) := by
 unfold Qa5
 rw [Int.tdiv_eq_ediv_of_nonneg (by omega), Int.tdiv_eq_ediv_of_nonneg (by omega), Int.tmod_eq_emod_of_nonneg (by omega)]
 split <;> omega
def QbX (y : Int) : Nat → Int → Int → (Int × Int × Int) ⊕ Int
 | 0, _, rest => .inr rest
 | k + 1, m, rest => if rest < lenF y (m + 1) then .inl (y, m + 1, rest + 1) else QbX y k (m + 1) (rest - lenF y (m + 1))
def sumL (y : Int) : Nat → Int → Int
 | 0, _ => 0
 | k + 1, m => lenF y (m + 1) + sumL y k (m + 1)
theorem QoJ (y : Int) : ∀ (k : Nat) (m : Int), 0 ≤ sumL y k m
 | 0, _ => by simp [sumL]
 | k + 1, m => by
  have := QoJ y k (m + 1)
  have := QdH y (m + 1)
  simp only [sumL]
  omega
theorem Qsa (y : Int) : sumL y 12 0 = (if Int.tmod y 4 = 0 then 366 else 365) := by
 have e1 : lenF y (0 + 1) = 31 := rfl
 have e2 : lenF y (0 + 1 + 1) = if Int.tmod y 4 = 0 then 29 else 28 := rfl
 have e3 : lenF y (0 + 1 + 1 + 1) = 31 := rfl
 have e4 : lenF y (0 + 1 + 1 + 1 + 1) = 30 := rfl
 have e5 : lenF y (0 + 1 + 1 + 1 + 1 + 1) = 31 := rfl
 have e6 : lenF y (0 + 1 + 1 + 1 + 1 + 1 + 1) = 30 := rfl
 have e7 : lenF y (0 + 1 + 1 + 1 + 1 + 1 + 1 + 1) = 31 := rfl
 have e8 : lenF y (0 + 1 + 1 + 1 + 1 + 1 + 1 + 1 + 1) = 31 := rfl
 have e9 : lenF y (0 + 1 + 1 + 1 + 1 + 1 + 1 + 1 + 1 + 1) = 30 := rfl
 have e10 : lenF y (0 + 1 + 1 + 1 + 1 + 1 + 1 + 1 + 1 + 1 + 1) = 31 := rfl
 have e11 : lenF y (0 + 1 + 1 + 1 + 1 + 1 + 1 + 1 + 1 + 1 + 1 + 1) = 30 := rfl
 have e12 : lenF y (0 + 1 + 1 + 1 + 1 + 1 + 1 + 1 + 1 + 1 + 1 + 1 + 1) = 31 := rfl
 simp only [sumL, e1, e2, e3, e4, e5, e6, e7, e8, e9, e10, e11, e12]
 split <;> omega
theorem Qks (y : Int) : ∀ (k : Nat) (m rest : Int), 0 ≤ rest → (∀ t, QbX y k m rest = .inl t → rest < sumL y k m) ∧ (∀ r, QbX y k m rest = .inr r → r = rest - sumL y k m ∧ 0 ≤ r)
 | 0, m, rest, h => by
  refine ⟨fun t q => (by cases q), fun r q => ?_⟩
  cases q
  exact ⟨by simp [sumL], h⟩
 | k + 1, m, rest, h => by
  have hr := QdH y (m + 1)
  have hn := QoJ y k (m + 1)
  by_cases c : rest < lenF y (m + 1)
  ·simp only [QbX, if_pos c, sumL]
   exact ⟨fun t q => (by omega), fun r q => (by cases q)⟩
  ·simp only [QbX, if_neg c, sumL]
   have ih := Qks y k (m + 1) (rest - lenF y (m + 1)) (by omega)
   refine ⟨fun t q => ?_, fun r q => ?_⟩
   ·have := ih.1 t q; omega
   ·have := ih.2 r q; omega
theorem Qos (y rest : Int) (h : rest ≥ (if Int.tmod y 4 = 0 then 366 else 365)) : QbX y 12 0 rest = .inr (rest - (if Int.tmod y 4 = 0 then 366 else 365)) := by
 have h0 : 0 ≤ rest := by split at h <;> omega
 have hs := Qks y 12 0 rest h0
 rw [Qsa] at hs
 cases e : QbX y 12 0 rest with
 | inl t => have := hs.1 t e; omega
 | inr r => rw [(hs.2 r e).1]
theorem Qpa (y rest : Int) (h0 : 0 ≤ rest) (h : rest < (if Int.tmod y 4 = 0 then 366 else 365)) : ∃ t, QbX y 12 0 rest = .inl t := by
 have hs := Qks y 12 0 rest h0
 rw [Qsa] at hs
 cases e : QbX y 12 0 rest with
 | inl t => exact ⟨t, rfl⟩
 | inr r => have := hs.2 r e; omega
theorem QoM (y : Int) : ∀ (k : Nat) (m rest : Int), 0 ≤ rest → (∀ t, QbX y k m rest = .inl t → t.1 = y ∧ m + 1 ≤ t.2.1 ∧ t.2.1 ≤ m + k ∧ 1 ≤ t.2.2 ∧ t.2.2 ≤ lenF y t.2.1) ∧ (∀ r, QbX y k m rest = .inr r → 0 ≤ r ∧ rest ≥ r + 28 * k)
 | 0, m, rest, h => by
  refine ⟨fun t q => (by cases q), fun r q => ?_⟩
  cases q
  exact ⟨h, by simp⟩
 | k + 1, m, rest, h => by
  have hr := QdH y (m + 1)
  by_cases c : rest < lenF y (m + 1)
  ·simp only [QbX, if_pos c]
   refine ⟨fun t q => ?_, fun r q => by cases q⟩
   cases q
   simp only
   refine ⟨trivial, by omega, by omega, by omega, by omega⟩
  ·simp only [QbX, if_neg c]
   have ih := QoM y k (m + 1) (rest - lenF y (m + 1)) (by omega)
   refine ⟨fun t q => ?_, fun r q => ?_⟩
   ·have := ih.1 t q
    refine ⟨this.1, by omega, by omega, this.2.2.2⟩
   ·have := ih.2 r q
    refine ⟨this.1, by omega⟩
def Qle (D Y : Int) : Prop := 2000 ≤ Y ∧ Y ≤ 2099 ∧ Qa5 Y ≤ D ∧ D < Qa5 (Y + 1)
theorem QoN {a b : Int} (ha : 2000 ≤ a) (h : a ≤ b) : Qa5 a ≤ Qa5 b := by
 unfold Qa5
 rw [Int.tdiv_eq_ediv_of_nonneg (by omega), Int.tdiv_eq_ediv_of_nonneg (by omega)]
 omega
theorem Qq3 {D a b : Int} (ha : Qle D a) (hb : Qle D b) : a = b := by
 rcases Int.lt_trichotomy a b with h | h | h
 ·have := QoN (a := a + 1) (b := b) (by have := ha.1; omega) (by omega)
  have := ha.2.2.2; have := hb.2.2.1; omega
 ·exact h
 ·have := QoN (a := b + 1) (b := a) (by have := hb.1; omega) (by omega)
  have := hb.2.2.2; have := ha.2.2.1; omega
def Qtv (D : Int) : Nat → Int → Int
 | 0, y => y
 | k + 1, y => if Qa5 (y + 1) ≤ D then Qtv D k (y + 1) else y
theorem QtJ {D : Int} (hD : D < 36525) : ∀ (k : Nat) (y : Int), 2000 ≤ y → y + k = 2099 → Qa5 y ≤ D → Qle D (Qtv D k y)
 | 0, y, h0, h, h1 => by
  have : y = 2099 := by omega
  subst this
  exact ⟨by show (2000 : Int) ≤ 2099; omega, by show (2099 : Int) ≤ 2099; omega, h1, by show D < Qa5 2100; rw [show Qa5 2100 = 36525 by decide]; exact hD⟩
 | k + 1, y, h0, h, h1 => by
  unfold Qtv
  split
  ·exact QtJ hD k (y + 1) (by omega) (by omega) (by assumption)
  ·exact ⟨h0, by omega, h1, by omega⟩
def Qgo (D : Int) : Int := Qtv D 99 2000
theorem Ql4 {D : Int} (h0 : 0 ≤ D) (hD : D < 36525) : Qle D (Qgo D) := QtJ hD 99 2000 (by omega) (by omega) (by rw [show Qa5 2000 = 0 by decide]; exact h0)
def Qdu (D : Int) : Int × Int × Int := match QbX (Qgo D) 12 0 (D - Qa5 (Qgo D)) with
 | .inl t => t
 | .inr _ => (0, 0, 0)
theorem QnM {D : Int} (h0 : 0 ≤ D) (hD : D < 36525) : QbX (Qgo D) 12 0 (D - Qa5 (Qgo D)) = .inl (Qdu D) := by
 have hy := Ql4 h0 hD
 obtain ⟨t, ht⟩ := Qpa (Qgo D) (D - Qa5 (Qgo D)) (by have := hy.2.2.1; omega) (by have := hy.2.2.2; rw [QkE _ hy.1] at this; omega)
 unfold Qdu
 rw [ht]
theorem Qo9 {D : Int} (h0 : 0 ≤ D) (hD : D < 36525) : 2000 ≤ (Qdu D).1 ∧ (Qdu D).1 ≤ 2099 ∧ 1 ≤ (Qdu D).2.1 ∧ (Qdu D).2.1 ≤ 12 ∧ 1 ≤ (Qdu D).2.2 ∧ (Qdu D).2.2 ≤ 31 := by
 have hy := Ql4 h0 hD
 have h := (QoM (Qgo D) 12 0 (D - Qa5 (Qgo D)) (by have := hy.2.2.1; omega)).1 _ (QnM h0 hD)
 have := QdH (Qgo D) (Qdu D).2.1
 obtain ⟨h1, h2, h3, h4, h5⟩ := h
 have := hy.1; have := hy.2.1
 refine ⟨by omega, by omega, by omega, by omega, by omega, by omega⟩
def tri (t : Int × Int × Int) : CV := .tup [.int .i64 t.1, .int .i64 t.2.1, .int .i64 t.2.2]
theorem Qox (D Y : Int) (yJ : CV) (ke : Int) : ∀ (k m : Nat) (rest : Int), m + k = 12 → 0 ≤ rest → rest ≤ 1000 → ∀ t, QbX Y k (m : Int) rest = .inl t →
  Evt fun n => ∀ j, k < j → QeT lb n j D Y yJ ke rest (m : Int) = some (tri t)
 | 0, m, rest, h, h0, h1, t, q => by cases q
 | k + 1, m, rest, h, h0, h1, t, q => by
  have hr := QdH Y ((m : Int) + 1)
  have hw : IntKind.wrap .i64 ((m : Int) + 1) = (m : Int) + 1 := Qaz (by omega) (by omega)
  have hlen := Qmw lb Y ((m : Int) + 1) ⟨by omega, by omega⟩
  by_cases c : rest < lenF Y ((m : Int) + 1)
  ·simp only [QbX, if_pos c] at q
   cases q
   refine hlen.mono fun n hn j hj => ?_
   obtain ⟨j, rfl⟩ : ∃ m, j = m + 1 := ⟨j - 1, by omega⟩
   rw [QgF, decT (by omega), cond_true, hw, hn]
   simp only [QaF, QaB, QaL, Qa4, Qa0, Qa6, Qa7, get0, get1, get2, get3, QaN, cond_true, cond_false, List.length_cons, List.length_nil, Nat.zero_add, Nat.reduceAdd, Nat.reduceBEq, beq_self_eq_true, Qay, Qav]
   rw [decT c, cond_true, Qaz (x := rest + 1) (by omega) (by omega)]
   rfl
  ·simp only [QbX, if_neg c] at q
   refine Evt.imp2 hlen (Qox D Y yJ ke k (m + 1) (rest - lenF Y ((m : Int) + 1)) (by omega) (by omega) (by omega) t (by exact_mod_cast q)) fun n hn hi j hj => ?_
   obtain ⟨j, rfl⟩ : ∃ m, j = m + 1 := ⟨j - 1, by omega⟩
   rw [QgF, decT (by omega), cond_true, hw, hn]
   simp only [QaF, QaB, QaL, Qa4, Qa0, Qa6, Qa7, get0, get1, get2, get3, QaN, cond_true, cond_false, List.length_cons, List.length_nil, Nat.zero_add, Nat.reduceAdd, Nat.reduceBEq, beq_self_eq_true, Qay, Qav]
   rw [decF c, cond_false, Qaz (x := rest - lenF Y ((m : Int) + 1)) (by omega) (by omega)]
   exact_mod_cast hi j (by omega)
theorem Qre {D : Int} (h0 : 0 ≤ D) (hD : D < 36525) : ∀ (k : Nat) (y : Int), 2000 ≤ y → y + k = 2099 → Qa5 y ≤ D → Evt fun n => ∀ j, k < j → QeZ lb n j D y = some (tri (Qdu D))
 | k, y, h1, h2, h3 => by
  have hf := Qij lb (y + 1) ⟨by omega, by omega⟩
  have hw : IntKind.wrap .i64 (y + 1) = y + 1 := Qaz (by omega) (by omega)
  by_cases c : Qa5 (y + 1) ≤ D
  ·match k, h2 with
   | 0, h2 =>
    exfalso
    have : y = 2099 := by omega
    subst this
    rw [show Qa5 (2099 + 1) = 36525 by decide] at c
    omega
   | k + 1, h2 =>
    refine Evt.imp2 hf (Qre h0 hD k (y + 1) (by omega) (by omega) c) fun n hn hi j hj => ?_
    obtain ⟨j, rfl⟩ : ∃ m, j = m + 1 := ⟨j - 1, by omega⟩
    rw [QgJ, hw, hn]
    simp only [QaF, QaB, QaL, Qa4, Qa0, Qa6, Qa7, get0, get1, get2, get3, QaN, cond_true, cond_false, List.length_cons, List.length_nil, Nat.zero_add, Nat.reduceAdd, Nat.reduceBEq, beq_self_eq_true, Qay, Qav]
    rw [decT c, cond_true]
    exact hi j (by omega)
  ·have hY : Qle D y := ⟨h1, by omega, h3, by omega⟩
   have hy : y = Qgo D := Qq3 hY (Ql4 h0 hD)
   have hm := Qox lb D y (.int .i64 (Qa5 y)) (Qa5 y) 12 0 (D - Qa5 y) rfl (by omega) (by have := hY.2.2.2; rw [QkE y h1] at this; split at this <;> omega) (Qdu D) (by rw [hy]; exact QnM h0 hD)
   refine Evt.imp2 (Evt.imp2 hf (Qij lb y ⟨by omega, by omega⟩) fun n a b => And.intro a b) (hm.and (Evt.ge 13)) fun n hn hi j hj => ?_
   obtain ⟨j, rfl⟩ : ∃ m, j = m + 1 := ⟨j - 1, by omega⟩
   rw [QgJ, hw, hn.1]
   simp only [QaF, QaB, QaL, Qa4, Qa0, Qa6, Qa7, get0, get1, get2, get3, QaN, cond_true, cond_false, List.length_cons, List.length_nil, Nat.zero_add, Nat.reduceAdd, Nat.reduceBEq, beq_self_eq_true, Qay, Qav]
   rw [decF c, cond_false, Qmr, hn.2]
   simp only [QaF, QaB, QaL, Qa4, Qa0, Qa6, Qa7, get0, get1, get2, get3, QaN, cond_true, cond_false, List.length_cons, List.length_nil, Nat.zero_add, Nat.reduceAdd, Nat.reduceBEq, beq_self_eq_true, Qay, Qav]
   rw [Qaz (x := D - Qa5 y) (by omega) (by have : 0 ≤ Qa5 y := (by unfold Qa5; have := Int.tdiv_nonneg (a := y - 2000 + 3) (b := 4) (by omega) (by omega); omega); omega)]
   exact hi.1 n (by omega)
theorem Qoc (D : Int) (h0 : 0 ≤ D) (hD : D < 36525) : Ret lb QaS [.int .i64 D] (tri (Qdu D)) := by
 refine .top rfl (.eq (fun n => by rw [QpG]) ?_)
 have q0 : 0 ≤ Int.tdiv D 366 := Int.tdiv_nonneg h0 (by decide)
 have q1 : Int.tdiv D 366 ≤ 99 := by rw [Int.tdiv_eq_ediv_of_nonneg h0]; omega
 simp only [decF (show ¬ D < 0 by omega), cond_false, decF (show ¬ D ≥ 36525 by omega), Qaz (x := Int.tdiv D 366) (by omega) (by omega), Qaz (x := 2000 + Int.tdiv D 366) (by omega) (by omega)]
 obtain ⟨k, hk⟩ := Int.eq_ofNat_of_zero_le (show 0 ≤ 2099 - (2000 + Int.tdiv D 366) by omega)
 refine Evt.diag (Qre lb h0 hD k (2000 + Int.tdiv D 366) (by omega) (by omega) ?_)
 unfold Qa5
 rw [Int.tdiv_eq_ediv_of_nonneg h0, Int.tdiv_eq_ediv_of_nonneg (by omega)]
 omega
def Qkg (day y m : Int) (r : CV) : Prop := ∃ c, Evt fun n => ∀ k, c < k → Qf8 lb n k day y m = some r
theorem Qw1 {day y m : Int} (h : day < lenF y m) (h0 : 0 ≤ day) : Qkg lb day y m (.tup [.int .i64 y, .int .i64 m, .int .i64 (day + 1)]) := by
 have := QdH y m
 refine ⟨0, (QhN lb y m).mono fun n hn k hk => ?_⟩
 obtain ⟨k, rfl⟩ : ∃ m, k = m + 1 := ⟨k - 1, by omega⟩
 rw [Qgx, hn]
 simp only [QaF, QaB, QaL, Qa4, Qa0, Qa6, Qa7, get0, get1, get2, get3, QaN, cond_true, cond_false, List.length_cons, List.length_nil, Nat.zero_add, Nat.reduceAdd, Nat.reduceBEq, beq_self_eq_true, Qay, Qav]
 rw [decF (by omega), cond_false, Qr3, Qaz (by omega) (by omega)]
theorem QwQ {day y m : Int} {r : CV} (h : lenF y m ≤ day) (hd : day ≤ 100000) (hm : 1 ≤ m ∧ m < 12) (hr : Qkg lb (day - lenF y m) y (m + 1) r) : Qkg lb day y m r := by
 obtain ⟨c, hc⟩ := hr
 have := QdH y m
 refine ⟨c + 1, Evt.imp2 (QhN lb y m) hc fun n hn hi k hk => ?_⟩
 obtain ⟨k, rfl⟩ : ∃ m, k = m + 1 := ⟨k - 1, by omega⟩
 rw [Qgx, hn]
 simp only [QaF, QaB, QaL, Qa4, Qa0, Qa6, Qa7, get0, get1, get2, get3, QaN, cond_true, cond_false, List.length_cons, List.length_nil, Nat.zero_add, Nat.reduceAdd, Nat.reduceBEq, beq_self_eq_true, Qay, Qav]
 rw [decT (by omega), cond_true, Qaz (x := m + 1) (by omega) (by omega), beqF (by omega), cond_false, Qaz (by omega) (by omega)]
 exact hi k (by omega)
theorem Qwo {day y : Int} {r : CV} (h : lenF y 12 ≤ day) (hd : day ≤ 100000) (hy : 2000 ≤ y ∧ y ≤ 3000) (hr : Qkg lb (day - lenF y 12) (y + 1) 1 r) : Qkg lb day y 12 r := by
 obtain ⟨c, hc⟩ := hr
 have := QdH y 12
 refine ⟨c + 1, Evt.imp2 (QhN lb y 12) hc fun n hn hi k hk => ?_⟩
 obtain ⟨k, rfl⟩ : ∃ m, k = m + 1 := ⟨k - 1, by omega⟩
 rw [Qgx, hn]
 simp only [QaF, QaB, QaL, Qa4, Qa0, Qa6, Qa7, get0, get1, get2, get3, QaN, cond_true, cond_false, List.length_cons, List.length_nil, Nat.zero_add, Nat.reduceAdd, Nat.reduceBEq, beq_self_eq_true, Qay, Qav]
 rw [decT (by omega), cond_true, Qaz (x := 12 + 1) (by omega) (by omega), beqT (by omega), cond_true, Qaz (x := y + 1) (by omega) (by omega), Qaz (by omega) (by omega)]
 exact hi k (by omega)
theorem Qnd (y : Int) (hy : 2000 ≤ y ∧ y ≤ 3000) {r : CV} : ∀ (k : Nat) (m day : Int), m + (k + 1) = 12 → 0 ≤ m → 0 ≤ day → day ≤ 100000 →
  (∀ t, QbX y (k + 1) m day = .inl t → r = tri t) → (∀ q, QbX y (k + 1) m day = .inr q → Qkg lb q (y + 1) 1 r) → Qkg lb day y (m + 1) r
 | k, m, day, h, hm, h0, h1, hl, hr => by
  have hlr := QdH y (m + 1)
  by_cases c : day < lenF y (m + 1)
  ·simp only [QbX, if_pos c] at hl
   rw [hl _ rfl]
   exact Qw1 lb c h0
  ·simp only [QbX, if_neg c] at hl hr
   match k, h with
   | 0, h =>
    have : m + 1 = 12 := by omega
    rw [this] at c hlr hr ⊢
    exact Qwo lb (by omega) h1 hy (hr _ rfl)
   | k + 1, h => exact QwQ lb (by omega) h1 ⟨by omega, by omega⟩ (Qnd y hy k (m + 1) (day - lenF y (m + 1)) (by omega) (by omega) (by omega) (by omega) hl hr)
theorem QoT {D : Int} (h0 : 0 ≤ D) (hD : D < 36525) : ∀ (k : Nat) (y : Int), 2000 ≤ y → y + k = 2099 → Qa5 y ≤ D → Qkg lb (D - Qa5 y) y 1 (tri (Qdu D))
 | k, y, h1, h2, h3 => by
  have hf0 : 0 ≤ Qa5 y := by unfold Qa5; have := Int.tdiv_nonneg (a := y - 2000 + 3) (b := 4) (by omega) (by omega); omega
  have hst := QkE y h1
  refine Qnd lb y ⟨h1, by omega⟩ 11 0 (D - Qa5 y) (by omega) (by omega) (by omega) (by omega) (fun t ht => ?_) fun q hq => ?_
  ·by_cases c : Qa5 (y + 1) ≤ D
   ·rw [Qos y _ (by rw [hst] at c; omega)] at ht
    cases ht
   ·have hY : Qle D y := ⟨h1, by omega, h3, by omega⟩
    have hy : y = Qgo D := Qq3 hY (Ql4 h0 hD)
    have := QnM h0 hD
    rw [← hy, ht] at this
    cases this
    rfl
  ·by_cases c : Qa5 (y + 1) ≤ D
   ·rw [Qos y _ (by rw [hst] at c; omega)] at hq
    cases hq
    rw [show D - Qa5 y - (if Int.tmod y 4 = 0 then 366 else 365) = D - Qa5 (y + 1) by rw [hst]; omega]
    match k, h2 with
    | 0, h2 =>
     exfalso
     have : y = 2099 := by omega
     subst this
     rw [show Qa5 (2099 + 1) = 36525 by decide] at c
     omega
    | k + 1, h2 => exact QoT h0 hD k (y + 1) (by omega) (by omega) c
   ·obtain ⟨t, ht⟩ := Qpa y (D - Qa5 y) (by omega) (by rw [hst] at c; omega)
    rw [ht] at hq
    cases hq
theorem QuM (D : Int) (h0 : 0 ≤ D) (hD : D < 36525) : Ret lb QcB [.int .i64 D] (tri (Qdu D)) := by
 refine .top rfl (.eq (fun n => by rw [QvJ]) ?_)
 simp only [decF (show ¬ D < 0 by omega), cond_false, decF (show ¬ D ≥ 36525 by omega)]
 obtain ⟨c, hc⟩ := QoT lb h0 hD 99 2000 (by omega) (by omega) (by rw [show Qa5 2000 = 0 by decide]; exact h0)
 rw [show Qa5 2000 = 0 by decide, Int.sub_zero] at hc
 exact Evt.diag hc
def twoS (z : Int) : Bs := [UInt8.ofNat (IntKind.wrap .u8 (IntKind.wrap .i64 (48 + IntKind.wrap .i64 (Int.tdiv z 10)))).toNat, UInt8.ofNat (IntKind.wrap .u8 (IntKind.wrap .i64 (48 + Int.tmod z 10))).toNat]
theorem QzP (x : Int) : 0 ≤ IntKind.wrap .u8 x ∧ IntKind.wrap .u8 x < 256 := by
 unfold IntKind.wrap
 simp only [IntKind.bits, IntKind.signed]
 simp
 omega
theorem Qsg (x y : Int) : bytesOf [[CV.int .u8 (IntKind.wrap .u8 x)], [CV.int .u8 (IntKind.wrap .u8 y)]] = some [UInt8.ofNat (IntKind.wrap .u8 x).toNat, UInt8.ofNat (IntKind.wrap .u8 y).toNat] := by
 simp only [bytesOf, QzP, and_self, if_true, Option.map_some]
theorem Qe3 (z : Int) : Ret lb QdP [.int .i64 z] (.str (twoS z)) :=
 .top rfl (.all fun n => by rw [QqM, Qsg, QaF]; rfl)
theorem Qh1 (z : Int) : Ret lb QgG [.int .i64 z] (.str (twoS z)) :=
 .top rfl (.all fun n => by rw [Qws, Qsg, QaF]; rfl)
def Qn3 (D : Int) : Bs := ((((twoS (IntKind.wrap .i64 (Int.tdiv (Qdu D).1 100)) ++ twoS (Int.tmod (Qdu D).1 100)) ++ [45]) ++ twoS (Qdu D).2.1) ++ [45]) ++ twoS (Qdu D).2.2
theorem QmP (D : Int) (h0 : 0 ≤ D) (hD : D < 36525) : Ret lb QeW [.int .i64 D] (.str (Qn3 D)) := by
 refine .top rfl (.eq (fun n => by rw [Qn8]) ?_)
 refine .call (Qoc lb D h0 hD) ?_
 have hr := Qo9 h0 hD
 simp only [tri, QaF, QaB, QaL, Qa4, Qa0, Qa6, Qa7, get0, get1, get2, get3, QaN, cond_true, cond_false, List.length_cons, List.length_nil, Nat.zero_add, Nat.reduceAdd, Nat.reduceBEq, beq_self_eq_true, Qay, Qav]
 rw [show ((Qdu D).1 == 0) = false from beqF (by omega)]
 simp only [cond_false]
 refine .call (Qe3 lb _) (.call (Qe3 lb _) ?_)
 simp only [QaF, QaB, QaL, Qa4, Qa0, Qa6, Qa7, get0, get1, get2, get3, QaN, cond_true, cond_false, List.length_cons, List.length_nil, Nat.zero_add, Nat.reduceAdd, Nat.reduceBEq, beq_self_eq_true, Qay, Qav]
 refine .chk (by simp [twoS]) (.chk (by simp [twoS]) (.call (Qe3 lb _) ?_))
 simp only [QaF, QaB, QaL, Qa4, Qa0, Qa6, Qa7, get0, get1, get2, get3, QaN, cond_true, cond_false, List.length_cons, List.length_nil, Nat.zero_add, Nat.reduceAdd, Nat.reduceBEq, beq_self_eq_true, Qay, Qav]
 refine .chk (by simp [twoS]) (.chk (by simp [twoS]) (.call (Qe3 lb _) ?_))
 simp only [QaF, QaB, QaL, Qa4, Qa0, Qa6, Qa7, get0, get1, get2, get3, QaN, cond_true, cond_false, List.length_cons, List.length_nil, Nat.zero_add, Nat.reduceAdd, Nat.reduceBEq, beq_self_eq_true, Qay, Qav]
 exact .chk (by simp [twoS]) (.of rfl)
theorem Qti (D : Int) (h0 : 0 ≤ D) (hD : D < 36525) : Ret lb Qh6 [.int .i64 D] (.str (Qn3 D)) := by
 refine .top rfl (.eq (fun n => by rw [QuT]) ?_)
 refine .call (QuM lb D h0 hD) ?_
 have hr := Qo9 h0 hD
 simp only [tri, QaF, QaB, QaL, Qa4, Qa0, Qa6, Qa7, get0, get1, get2, get3, QaN, cond_true, cond_false, List.length_cons, List.length_nil, Nat.zero_add, Nat.reduceAdd, Nat.reduceBEq, beq_self_eq_true, Qay, Qav]
 rw [show ((Qdu D).1 == 0) = false from beqF (by omega)]
 simp only [cond_false]
 refine .call (Qh1 lb _) (.call (Qh1 lb _) ?_)
 simp only [QaF, QaB, QaL, Qa4, Qa0, Qa6, Qa7, get0, get1, get2, get3, QaN, cond_true, cond_false, List.length_cons, List.length_nil, Nat.zero_add, Nat.reduceAdd, Nat.reduceBEq, beq_self_eq_true, Qay, Qav]
 refine .chk (by simp [twoS]) (.chk (by simp [twoS]) (.call (Qh1 lb _) ?_))
 simp only [QaF, QaB, QaL, Qa4, Qa0, Qa6, Qa7, get0, get1, get2, get3, QaN, cond_true, cond_false, List.length_cons, List.length_nil, Nat.zero_add, Nat.reduceAdd, Nat.reduceBEq, beq_self_eq_true, Qay, Qav]
 refine .chk (by simp [twoS]) (.chk (by simp [twoS]) (.call (Qh1 lb _) ?_))
 simp only [QaF, QaB, QaL, Qa4, Qa0, Qa6, Qa7, get0, get1, get2, get3, QaN, cond_true, cond_false, List.length_cons, List.length_nil, Nat.zero_add, Nat.reduceAdd, Nat.reduceBEq, beq_self_eq_true, Qay, Qav]
 exact .chk (by simp [twoS]) (.of rfl)
end Go.Proofs
set_option linter.unusedSimpArgs false
namespace Go.Proofs
open Go.Am
variable (lb : Nat)
theorem QmX {α : Type} {enc : α → List CV} (c : Bool) (F : List α) (x : α) (m : Nat) (hm : m ≤ 1000) (hF : F.length ≤ 100000) (J : Bool → List (List CV) → Option CV) :
  (bif !c then chkO (room ((F.map enc).length + 1) m) (J (F.isEmpty && false) (F.map enc ++ [enc x])) else J F.isEmpty (F.map enc)) = J (F ++ if c then [] else [x]).isEmpty ((F ++ if c then [] else [x]).map enc) := by
 cases c with
 | false => simp only [Bool.not_false, cond_true, Qa8 (n := (F.map enc).length + 1) (b := m) (by simp; omega) hm, QaN, Bool.false_eq_true, if_false, List.map_append, List.map_cons, List.map_nil, Qbr F x]
 | true => simp only [Bool.not_true, cond_false, if_true, List.append_nil]
theorem QdY {α : Type} {enc : α → List CV} (c : Bool) (F : List α) (x : α) (m : Nat) (hm : m ≤ 1000) (hF : F.length ≤ 100000) (J : Bool → List (List CV) → Option CV) :
  (bif c then chkO (room ((F.map enc).length + 1) m) (J (F.isEmpty && false) (F.map enc ++ [enc x])) else J F.isEmpty (F.map enc)) = J (F ++ if c then [x] else []).isEmpty ((F ++ if c then [x] else []).map enc) := by
 cases c with
 | true => simp only [cond_true, Qa8 (n := (F.map enc).length + 1) (b := m) (by simp; omega) hm, QaN, if_true, List.map_append, List.map_cons, List.map_nil, Qbr F x]
 | false => simp only [cond_false, Bool.false_eq_true, if_false, List.append_nil]
theorem QkO {β : Type} (c d : Bool) (x y : β) : (bif c then x else bif d then x else y) = (bif c || d then x else y) := by cases c <;> rfl
theorem QpJ {β : Type} (c d : Bool) (x y : β) : (bif !c then x else bif !d then x else y) = (bif !(c && d) then x else y) := by cases c <;> rfl
theorem Qrl {α : Type} {enc : α → List CV} (c : Bool) (x : α) (J : Bool → List (List CV) → Option CV) :
  (bif !c then J false [enc x] else J true []) = J (if c then ([] : List α) else [x]).isEmpty ((if c then [] else [x]).map enc) := by cases c <;> rfl
def ienc (e : Int) : List CV := [CV.int .i64 e]
abbrev Ft := Int × Bs
def Qba (x : Ft) : List CV := [.int .i64 x.1, .str x.2]
def brk (q : List Lg) (x : Lg) : Bool := (match q.getLast? with | some y => !(x.fro == y.to) | none => false) || (q ++ [x]).any (fun z => z.fro == x.to)
theorem QtL (an : Bool) (l q t : List Lg) (x : Lg) (h : q ++ x :: t = l) (hl : l.length ≤ 1000) : Evt fun n => QcZ lb n n an (l.map lgcv) (q.length : Int) 0 = some (.bool (!(q ++ [x]).any (fun z => z.fro == x.to))) := by
 have hll : l.length = q.length + (t.length + 1) := by rw [← h]; simp
 have hw : IntKind.wrap .i64 ((q.length : Int) + 1) = (q.length : Int) + 1 := Qaz (by omega) (by omega)
 have htk : ((l.map lgcv).take (IntKind.wrap .i64 ((q.length : Int) + 1)).toNat).drop 0 = (q ++ [x]).map lgcv := by
  rw [hw, show ((q.length : Int) + 1).toNat = q.length + 1 by omega, List.drop_zero, ← List.map_take, ← h]
  congr 1
  rw [List.take_append, List.take_of_length_le (by omega)]
  simp
 have hlast : atL (l.map lgcv) (q.length : Int) = some (lgcv x) := QaG (by rw [← h]; simp)
 refine Evt.diag (m := (q ++ [x]).length) (QdF (enc := lgcv) (l := q ++ [x]) (by simp; omega) (P := fun r s n k => QcZ lb n k an (l.map lgcv) (q.length : Int) (r.length : Int) = some (.bool (!s.any (fun z => z.fro == x.to)))) ?_ ?_ (q ++ [x]) [] rfl)
 ·refine .all fun n k => ?_
  rw [Qf9, htk, decF (by simp), cond_false, QlF]
  rfl
 ·intro r z s hrs hlt hat hw2 hev
  refine hev.mono fun n hn k hk => ?_
  have hn := hn k hk
  rw [Qf9, htk, decT hlt, cond_true]
  simp only [hat, hlast, lgcv, QaF, QaB, QaL, Qa4, Qa0, Qa6, Qa7, get0, get1, get2, get3, QaN, cond_true, cond_false, List.length_cons, List.length_nil, Nat.zero_add, Nat.reduceAdd, Nat.reduceBEq, beq_self_eq_true, Qay, Qav, get4, hw2]
  by_cases e : z.fro = x.to
  ·rw [show (z.fro == x.to) = true by simpa using e, cond_true, decT (by omega)]
   simp [e]
  ·have e' : (z.fro == x.to) = false := by simpa using e
   rw [e', cond_false, hn]
   simp [e']
theorem QvI (an : Bool) (l q t : List Lg) (x : Lg) (h : q ++ x :: t = l) (hl : l.length ≤ 1000) : Ret lb QaV [.list an (l.map lgcv), .int .i64 (q.length : Int)] (.bool (!brk q x)) := by
 have hll : l.length = q.length + (t.length + 1) := by rw [← h]; simp
 have hall : (l.map lgcv).all (·.length == 5) = true := by simp [lgcv]
 have hw : IntKind.wrap .i64 ((q.length : Int) + 1) = (q.length : Int) + 1 := Qaz (by omega) (by omega)
 have hlast : atL (l.map lgcv) (q.length : Int) = some (lgcv x) := QaG (by rw [← h]; simp)
 refine .top rfl ((QtL lb an l q t x h hl).mono fun n hn => ?_)
 rw [Qog, hall, hw, decT (show (0 : Int) ≤ (q.length : Int) + 1 ∧ (q.length : Int) + 1 ≤ ((l.map lgcv).length : Int) by rw [List.length_map]; omega), hn]
 simp only [QaN]
 unfold brk
 rcases Qhc q with rfl | ⟨q', y, rfl⟩
 ·rw [decF (by simp), cond_false]
  rfl
 ·have hwl : IntKind.wrap .i64 (((q' ++ [y]).length : Int) - 1) = (q'.length : Int) := by
   rw [List.length_append, List.length_singleton] at hll ⊢
   rw [Qaz (by omega) (by omega)]
   omega
  have hpre : atL (l.map lgcv) (q'.length : Int) = some (lgcv y) := QaG (by rw [← h]; simp)
  rw [decT (by rw [List.length_append, List.length_singleton]; omega), cond_true, hlast, hwl, hpre]
  simp only [lgcv, QaF, QaB, QaL, Qa4, Qa0, Qa6, Qa7, get0, get1, get2, get3, QaN, cond_true, cond_false, List.length_cons, List.length_nil, Nat.zero_add, Nat.reduceAdd, Nat.reduceBEq, beq_self_eq_true, Qay, Qav, get4, List.getLast?_append, List.getLast?_singleton, Option.some_or]
  cases (x.fro == y.to) <;> rfl
theorem QwO (an : Bool) (l q t : List Lg) (x : Lg) (h : q ++ x :: t = l) (hl : l.length ≤ 1000) : Ret lb QbF [.list an (l.map lgcv), .int .i64 (q.length : Int)] (.bool (brk q x)) := by
 have hll : l.length = q.length + (t.length + 1) := by rw [← h]; simp
 have hlast : atL (l.map lgcv) (q.length : Int) = some (lgcv x) := QaG (by rw [← h]; simp)
 have key : Evt fun n => QdX lb n n an (l.map lgcv) (q.length : Int) 0 = some (.bool ((q ++ [x]).any (fun z => z.fro == x.to))) := by
  refine Evt.diag (m := (q ++ [x]).length) (QdF (enc := lgcv) (l := q ++ [x]) (by simp; omega) (P := fun r s n k => QdX lb n k an (l.map lgcv) (q.length : Int) (r.length : Int) = some (.bool (s.any (fun z => z.fro == x.to)))) ?_ ?_ (q ++ [x]) [] rfl)
  ·refine .all fun n k => ?_
   rw [Qic, decF (by simp; omega), cond_false, QpA]
   rfl
  ·intro r z s hrs hlt hat hw2 hev
   refine hev.mono fun n hn k hk => ?_
   have hn := hn k hk
   have hlz : l = r ++ z :: (s ++ t) := by
    rw [← h, show q ++ x :: t = (q ++ [x]) ++ t by simp, ← hrs]; simp
   have hat : atL (l.map lgcv) (r.length : Int) = some (lgcv z) := QaG (by rw [hlz]; simp)
   rw [Qic, decT (by simp at hlt; omega), cond_true]
   simp only [hat, hlast, lgcv, QaF, QaB, QaL, Qa4, Qa0, Qa6, Qa7, get0, get1, get2, get3, QaN, cond_true, cond_false, List.length_cons, List.length_nil, Nat.zero_add, Nat.reduceAdd, Nat.reduceBEq, beq_self_eq_true, Qay, Qav, get4, hw2]
   by_cases e : z.fro = x.to
   ·rw [show (z.fro == x.to) = true by simpa using e, cond_true]
    simp [e]
   ·have e' : (z.fro == x.to) = false := by simpa using e
    rw [e', cond_false, hn]
    simp [e']
 refine .top rfl (key.mono fun n hn => ?_)
 rw [Qs3, hn]
 unfold brk
 rcases Qhc q with rfl | ⟨q', y, rfl⟩
 ·rw [decF (by simp), cond_false]
  rfl
 ·have hwl : IntKind.wrap .i64 (((q' ++ [y]).length : Int) - 1) = (q'.length : Int) := by
   rw [List.length_append, List.length_singleton] at hll ⊢
   rw [Qaz (by omega) (by omega)]
   omega
  have hpre : atL (l.map lgcv) (q'.length : Int) = some (lgcv y) := QaG (by rw [← h]; simp)
  rw [decT (by rw [List.length_append, List.length_singleton]; omega), cond_true, hlast, hwl, hpre]
  simp only [lgcv, QaF, QaB, QaL, Qa4, Qa0, Qa6, Qa7, get0, get1, get2, get3, QaN, cond_true, cond_false, List.length_cons, List.length_nil, Nat.zero_add, Nat.reduceAdd, Nat.reduceBEq, beq_self_eq_true, Qay, Qav, get4, List.getLast?_append, List.getLast?_singleton, Option.some_or]
  cases (x.fro == y.to) <;> rfl
def okM (m : Int) : Bool := decide (-1440 ≤ m ∧ m < 5760)
def Qng (p : Pc) (s : Bs) : Bool := (Qcx s p.aps).isSome
def legE (p : Pc) (q : List Lg) (x : Lg) : List Int :=
 (((if Qes x.eq 3 3 then [] else [5]) ++ (if Qng p x.fro && Qng p x.to then [] else [14])) ++ (if !brk q x then [] else [15])) ++ (if okM x.dep && okM x.arr then [] else [2])
theorem Qpp (p : Pc) (q : List Lg) (x : Lg) : (legE p q x).length ≤ 4 := by
 unfold legE
 simp only [List.length_append]
 have h : ∀ (c : Bool) (e : Int), (if c then [] else [e] : List Int).length ≤ 1 := fun c e => by cases c <;> simp
 have := h (Qes x.eq 3 3) 5
 have := h (Qng p x.fro && Qng p x.to) 14
 have := h (!brk q x) 15
 have := h (okM x.dep && okM x.arr) 2
 omega
theorem QmF (c : Bool) (e : Int) : (if c then [] else [e] : List Int).length ≤ 1 := by cases c <;> simp
theorem Qz2 (n : Nat) (ja : Bool) (aair2 : List (List CV)) (jb : Bool) (adis4 : List (List CV)) (jy : Bool) (b6 : List (List CV)) (c7 : Int) (wV wN : CV) (c9 : List CV) (we wI wH wX yO y0 w5 yW wz wC x23 yf wn w8 wY yF yN yE yU : CV) (E : List Int) (hE : E.length ≤ 1000) (d a : Bool) (h1 : C lb n QbJ [wH] = some (.bool d)) (h2 : C lb n QbJ [wX] = some (.bool a)) :
  Qfc lb n ja aair2 jb adis4 jy b6 c7 wV wN c9 we wI wH wX yO y0 w5 yW wz wC x23 yf wn w8 wY yF yN yE yU E.isEmpty (E.map ienc) = some (.list (E ++ if d && a then [] else [2]).isEmpty ((E ++ if d && a then [] else [2]).map ienc)) := by
 rw [Qpx, h1, h2]
 simp only [QaF, QaB, QaL, Qa4, Qa0, Qa6, Qa7, get0, get1, get2, get3, QaN, cond_true, cond_false, List.length_cons, List.length_nil, Nat.zero_add, Nat.reduceAdd, Nat.reduceBEq, beq_self_eq_true, Qay, Qav]
 rw [QpJ]
 exact QmX (enc := ienc) (d && a) E 2 8 (by decide) (by omega) (fun b l => some (.list b l))
theorem QAa (n : Nat) (ja : Bool) (aair2 : List (List CV)) (jb : Bool) (adis4 : List (List CV)) (jy : Bool) (b6 : List (List CV)) (c7 : Int) (wV wN : CV) (c9 : List CV) (we wI wH wX yO y0 w5 yW wz wC x23 yf wn w8 wY yF yN yE yU : CV) (E : List Int) (hE : E.length ≤ 100) (f d a : Bool) (h0 : C lb n QaV [.list jy b6, .int .i64 c7] = some (.bool f)) (h1 : C lb n QbJ [wH] = some (.bool d)) (h2 : C lb n QbJ [wX] = some (.bool a)) :
  Qfb lb n ja aair2 jb adis4 jy b6 c7 wV wN c9 we wI wH wX yO y0 w5 yW wz wC x23 yf wn w8 wY yF yN yE yU E.isEmpty (E.map ienc) = some (.list ((E ++ if f then [] else [15]) ++ if d && a then [] else [2]).isEmpty (((E ++ if f then [] else [15]) ++ if d && a then [] else [2]).map ienc)) := by
 rw [Qpl, h0]
 simp only [QaF, QaB, QaL, Qa4, Qa0, Qa6, Qa7, get0, get1, get2, get3, QaN, cond_true, cond_false, List.length_cons, List.length_nil, Nat.zero_add, Nat.reduceAdd, Nat.reduceBEq, beq_self_eq_true, Qay, Qav]
 refine (QmX (enc := ienc) f E 15 8 (by decide) (by omega) (Qfc lb n ja aair2 jb adis4 jy b6 c7 wV wN c9 we wI wH wX yO y0 w5 yW wz wC x23 yf wn w8 wY yF yN yE yU)).trans ?_
 exact Qz2 lb _ _ _ _ _ _ _ _ _ _ _ _ _ _ _ _ _ _ _ _ _ _ _ _ _ _ _ _ _ _ _ (by rw [List.length_append]; have := QmF f 15; omega) d a h1 h2
theorem QzQ (n : Nat) (ja : Bool) (aair2 : List (List CV)) (jb : Bool) (adis4 : List (List CV)) (jy : Bool) (b6 : List (List CV)) (c7 : Int) (wV wN : CV) (c9 : List CV) (we wI wH wX yO y0 w5 yW wz wC x23 yf wn w8 wY yF yN yE yU : CV) (E : List Int) (hE : E.length ≤ 10) (u v f d a : Bool) (hu : wV = .bool u) (hv : wN = .bool v) (h0 : C lb n QaV [.list jy b6, .int .i64 c7] = some (.bool f)) (h1 : C lb n QbJ [wH] = some (.bool d)) (h2 : C lb n QbJ [wX] = some (.bool a)) :
  flight_leg_J1 lb n ja aair2 jb adis4 jy b6 c7 wV wN c9 we wI wH wX yO y0 w5 yW wz wC x23 yf wn w8 wY yF yN yE yU E.isEmpty (E.map ienc) = some (.list (((E ++ if u && v then [] else [14]) ++ if f then [] else [15]) ++ if d && a then [] else [2]).isEmpty ((((E ++ if u && v then [] else [14]) ++ if f then [] else [15]) ++ if d && a then [] else [2]).map ienc)) := by
 subst hu; subst hv
 rw [Qpk]
 simp only [QaF, QaB, QaL, Qa4, Qa0, Qa6, Qa7, get0, get1, get2, get3, QaN, cond_true, cond_false, List.length_cons, List.length_nil, Nat.zero_add, Nat.reduceAdd, Nat.reduceBEq, beq_self_eq_true, Qay, Qav]
 rw [QpJ]
 refine (QmX (enc := ienc) (u && v) E 14 8 (by decide) (by omega) _).trans ?_
 exact QAa lb _ _ _ _ _ _ _ _ _ _ _ _ _ _ _ _ _ _ _ _ _ _ _ _ _ _ _ _ _ _ _ (by rw [List.length_append]; have := QmF (u && v) 14; omega) f d a h0 h1 h2
theorem Qrp (p : Pc) (hp : Qbw p) (an : Bool) (l q t : List Lg) (x : Lg) (h : q ++ x :: t = l) (hl : l.length ≤ 1000) (hx : x.eq.length ≤ 281474976710656) :
  Ret lb QbZ [pcv p, .list an (l.map lgcv), .int .i64 (q.length : Int)] (.list (legE p q x).isEmpty ((legE p q x).map ienc)) := by
 have hlast : atL (l.map lgcv) (q.length : Int) = some (lgcv x) := QaG (by rw [← h]; simp)
 refine .top rfl (Evt.imp2 (Evt.imp2 (Evt.imp2 (Qfv lb p x.fro hp.1) (Qfv lb p x.to hp.1) fun n a b => And.intro a b) (Evt.imp2 (Qmp lb x.eq 3 3 (by omega)) (QvI lb an l q t x h hl) fun n a b => And.intro a b) fun n a b => And.intro a b)
  (Evt.imp2 (Qil lb x.dep) (Qil lb x.arr) fun n a b => And.intro a b) fun n h1 h2 => ?_)
 obtain ⟨⟨a1, a2⟩, a3, a4⟩ := h1
 obtain ⟨a5, a6⟩ := h2
 rw [QsT, hlast]
 refine stO _ rfl (stC rfl (stO _ rfl (stO _ rfl (stO _ rfl (stO _ rfl (stO _ rfl (stO _ a1 (stO _ rfl (stO _ rfl (stO _ rfl (stO _ rfl (stO _ rfl (stC rfl (stO _ rfl (stO _ rfl (stO _ rfl (stO _ rfl (stO _ rfl
  (stO _ a2 (stO _ rfl (stO _ rfl (stO _ rfl (stO _ rfl (stO _ rfl (stC rfl (stO _ rfl (stO _ rfl (stO _ rfl (stO _ rfl (stO _ rfl (stO _ a3 (stO _ rfl ?_))))))))))))))))))))))))))))))))
 refine (Qrl (enc := ienc) (Qes x.eq 3 3) 5 _).trans ?_
 exact QzQ lb _ _ _ _ _ _ _ _ _ _ _ _ _ _ _ _ _ _ _ _ _ _ _ _ _ _ _ _ _ _ _ (by have := QmF (Qes x.eq 3 3) 5; omega) _ _ _ _ _ rfl rfl a4 a5 a6
def QfJ : Bs := [99, 97, 114, 114, 105, 101, 114]
def Qfi : Bs := [110, 117, 109, 98, 101, 114]
def wPeriod : Bs := [112, 101, 114, 105, 111, 100]
def QnU : Bs := [108, 101, 103, 115]
def wLeg : Bs := [108, 101, 103, 32]
def wDay : Bs := [100, 97, 121, 32]
def QdW (f : Fl) : List Ft := ((if Qdy f.car then [] else [(5, QfJ)]) ++ (if !(decide (f.num < 1) || decide (f.num > 9999)) then [] else [(2, Qfi)])) ++ (if perE f.fr f.to f.days != 0 then [(perE f.fr f.to f.days, wPeriod)] else [])
def QfS (f : Fl) : List Ft := QdW f ++ (if decide ((f.legs.length : Int) < 1) || decide ((f.legs.length : Int) > 6) then [(4, QnU)] else [])
def Qa2 (p : Pc) : List Lg → List Lg → List Ft
 | _, [] => []
 | q, x :: t => (legE p q x).map (fun e => (e, wLeg ++ Lib.itoa (q.length : Int))) ++ Qa2 p (q ++ [x]) t
def QcI (p : Pc) (l : List Lg) : List Int → List Ft
 | [] => []
 | d :: r => if ordF p l d then QcI p l r else [(13, wDay ++ Qn3 d)]
def QaT (p : Pc) (f : Fl) : List Ft :=
 if f.legs.length < 1 ∨ f.legs.length > 6 then QfS f else
 if QdW f ++ Qa2 p [] f.legs = [] then QcI p f.legs (Qat f.fr f.to f.days) else QdW f ++ Qa2 p [] f.legs
theorem QjO (f : Fl) : (QdW f).length ≤ 3 := by
 have h : ∀ (c : Bool) (e : Ft), (if c then [] else [e] : List Ft).length ≤ 1 := fun c e => by cases c <;> simp
 have h' : ∀ (c : Bool) (e : Ft), (if c then [e] else [] : List Ft).length ≤ 1 := fun c e => by cases c <;> simp
 unfold QdW
 rw [List.length_append, List.length_append]
 have := h (Qdy f.car) (5, QfJ)
 have := h (!(decide (f.num < 1) || decide (f.num > 9999))) (2, Qfi)
 have := h' (perE f.fr f.to f.days != 0) (perE f.fr f.to f.days, wPeriod)
 omega
theorem QuB (f : Fl) (hc : f.car.length ≤ 281474976710656) : Ret lb QcR [flcv f] (.list (QfS f).isEmpty ((QfS f).map Qba)) := by
 have h1' : ∀ (c : Bool) (e : Ft), (if c then [] else [e] : List Ft).length ≤ 1 := fun c e => by cases c <;> simp
 refine .top rfl (Evt.imp2 (QpN lb f.car (by omega)) (Qdx lb f.fr f.to f.days) fun n a1 a2 => ?_)
 rw [QvF, a1]
 simp only [QaF, QaB, QaL, Qa4, Qa0, Qa6, Qa7, get0, get1, get2, get3, QaN, cond_true, cond_false, List.length_cons, List.length_nil, Nat.zero_add, Nat.reduceAdd, Nat.reduceBEq, beq_self_eq_true, Qay, Qav]
 refine (Qrl (enc := Qba) (Qdy f.car) (5, QfJ) _).trans ?_
 rw [QrI, QkO]
 refine (QdY (enc := Qba) _ _ (2, Qfi) 24 (by decide) (by have := h1' (Qdy f.car) (5, QfJ); omega) _).trans ?_
 rw [QrM, a2]
 simp only [QaF, QaB, QaL, Qa4, Qa0, Qa6, Qa7, get0, get1, get2, get3, QaN, cond_true, cond_false, List.length_cons, List.length_nil, Nat.zero_add, Nat.reduceAdd, Nat.reduceBEq, beq_self_eq_true, Qay, Qav]
 have e2 : (if decide (f.num < 1) || decide (f.num > 9999) then [(2, Qfi)] else []) = (if !(decide (f.num < 1) || decide (f.num > 9999)) then [] else [((2, Qfi) : Ft)]) := by
  cases (decide (f.num < 1) || decide (f.num > 9999)) <;> rfl
 rw [e2]
 refine (QdY (enc := Qba) _ _ (perE f.fr f.to f.days, wPeriod) 24 (by decide) (by
  have := h1' (Qdy f.car) (5, QfJ)
  have := h1' (!(decide (f.num < 1) || decide (f.num > 9999))) (2, Qfi)
  rw [List.length_append]; omega) _).trans ?_
 rw [Qrh, QkO, List.length_map]
 exact (QdY (enc := Qba) _ _ (4, QnU) 24 (by decide) (by have := QjO f; unfold QdW at this; omega) (fun b l => some (.list b l)))
end Go.Proofs
set_option linter.unusedSimpArgs false
namespace Go.Proofs
open Go.Am
variable (lb : Nat)
theorem QAt (c : Bool) (e : Ft) : (if c then [e] else [] : List Ft).length ≤ 1 := by cases c <;> simp
theorem QmN (c : Bool) (e : Ft) : (if c then [] else [e] : List Ft).length ≤ 1 := by cases c <;> simp
def Qb9 (F : List Ft) : CV := .list F.isEmpty (F.map Qba)
theorem Qp6 (p : Pc) : ∀ (a r t : List Lg), Qa2 p r (a ++ t) = Qa2 p r a ++ Qa2 p (r ++ a) t
 | [], r, t => by simp [Qa2]
 | x :: a, r, t => by
  simp only [List.cons_append, Qa2, Qp6 p a (r ++ [x]) t, List.append_assoc, List.nil_append]
theorem Qi1 (p : Pc) : ∀ (t r : List Lg), (Qa2 p r t).length ≤ 4 * t.length
 | [], r => by simp [Qa2]
 | x :: t, r => by
  have := Qi1 p t (r ++ [x])
  have := Qpp p r x
  simp only [Qa2, List.length_append, List.length_map, List.length_cons]
  omega
theorem Qo7 (p : Pc) (q : List Lg) (x : Lg) : Qa2 p [] (q ++ [x]) = Qa2 p [] q ++ (legE p q x).map (fun e => (e, wLeg ++ Lib.itoa (q.length : Int))) := by
 rw [Qp6]
 simp [Qa2]
theorem QpC {fr days d : Int} : ∀ {k : Nat}, d ∈ upto fr days k → fr ≤ d ∧ d < fr + k
 | 0, h => by cases h
 | k + 1, h => by
  simp only [upto, List.mem_append] at h
  rcases h with h | h
  ·have := QpC h; omega
  ·split at h
   ·have : d = fr + k := by simpa using h
    omega
   ·cases h
theorem QeL {fr to days d : Int} (h : d ∈ Qat fr to days) : 0 ≤ d ∧ d < 36525 ∧ hasF fr to days d = true := by
 unfold Qat at h
 split at h
 ·rename_i h0
  obtain ⟨a0, a1, a2, a3, a4, a5⟩ := Qe8 h0
  have hm := QpC h
  refine ⟨by omega, by omega, ?_⟩
  have on : ∀ {k : Nat}, d ∈ upto fr days k → onF days d = true := by
   intro k
   induction k with
   | zero => intro h; cases h
   | succ k ih =>
    intro h
    simp only [upto, List.mem_append] at h
    rcases h with h | h
    ·exact ih h
    ·split at h
     ·have : d = fr + k := by simpa using h
      rw [this]; assumption
     ·cases h
  unfold hasF
  rw [decT h0, decT (by omega), decT (by omega), on h]
  rfl
 ·cases h
theorem Qh9 (fr to days : Int) : (Qat fr to days).length ≤ 800 := by
 unfold Qat
 split
 ·rename_i h0
  obtain ⟨a0, a1, a2, a3, a4, a5⟩ := Qe8 h0
  have := Qr7 fr days (to + 1 - fr).toNat
  omega
 ·simp
theorem Qxe (p : Pc) (f : Fl) (d : Int) : ordG true 0 ((Qkl p f d).map fun x => (x.dep, x.arr)) = ordF p f.legs d := by
 unfold ordF Qkl
 rw [List.map_map]
 rfl
theorem QAw (n yn : Nat) (ja : Bool) (aair2 : List (List CV)) (jb : Bool) (adis4 : List (List CV)) (bcar5 : List UInt8) (jg jd jf jc : Int) (je : Bool) (bleg12 : List (List CV)) (w6 : Int) (s370 : List UInt8) (vo vr : CV) (wW : Bool × List (List CV)) (c363 : List CV) (yA yy yw yx yL yS vl vG vk vF vP vZ vU vY vX vM vT vN vQ vO : CV) (F : List Ft) (hF : F.length ≤ 1000) (d a : Bool) (h1 : C lb n QdM [yw] = some (.bool d)) (h2 : C lb n QdM [yx] = some (.bool a)) :
  Qg7 lb n yn ja aair2 jb adis4 bcar5 jg jd jf jc je bleg12 w6 s370 vo vr wW c363 yA yy yw yx yL yS vl vG vk vF vP vZ vU vY vX vM vT vN vQ vO F.isEmpty (F.map Qba) = Qce lb n yn ja aair2 jb adis4 bcar5 jg jd jf jc je bleg12 wW (F ++ if d || a then [(2, wLeg ++ s370)] else []).isEmpty ((F ++ if d || a then [(2, wLeg ++ s370)] else []).map Qba) (IntKind.wrap .i64 (w6 + 1)) := by
 rw [QqU, h1, h2]
 simp only [QaF, QaB, QaL, Qa4, Qa0, Qa6, Qa7, get0, get1, get2, get3, QaN, cond_true, cond_false, List.length_cons, List.length_nil, Nat.zero_add, Nat.reduceAdd, Nat.reduceBEq, beq_self_eq_true, Qay, Qav]
 rw [QkO]
 exact QdY (enc := Qba) (d || a) F (2, wLeg ++ s370) 24 (by decide) (by omega) (fun b l => Qce lb n yn ja aair2 jb adis4 bcar5 jg jd jf jc je bleg12 wW b l (IntKind.wrap .i64 (w6 + 1)))
theorem QAD (n yn : Nat) (ja : Bool) (aair2 : List (List CV)) (jb : Bool) (adis4 : List (List CV)) (bcar5 : List UInt8) (jg jd jf jc : Int) (je : Bool) (bleg12 : List (List CV)) (w6 : Int) (s370 : List UInt8) (vo vr : CV) (wW : Bool × List (List CV)) (c363 : List CV) (yA yy yw yx yL yS vl vG vk vF vP vZ vU vY vX vM vT vN vQ vO : CV) (F : List Ft) (hF : F.length ≤ 900) (b d a : Bool) (h0 : C lb n QbF [.list je bleg12, .int .i64 w6] = some (.bool b)) (h1 : C lb n QdM [yw] = some (.bool d)) (h2 : C lb n QdM [yx] = some (.bool a)) :
  Qfz lb n yn ja aair2 jb adis4 bcar5 jg jd jf jc je bleg12 w6 s370 vo vr wW c363 yA yy yw yx yL yS vl vG vk vF vP vZ vU vY vX vM vT vN vQ vO F.isEmpty (F.map Qba) = Qce lb n yn ja aair2 jb adis4 bcar5 jg jd jf jc je bleg12 wW ((F ++ if b then [(15, wLeg ++ s370)] else []) ++ if d || a then [(2, wLeg ++ s370)] else []).isEmpty
   (((F ++ if b then [(15, wLeg ++ s370)] else []) ++ if d || a then [(2, wLeg ++ s370)] else []).map Qba) (IntKind.wrap .i64 (w6 + 1)) := by
 rw [Qrd, h0]
 simp only [QaF, QaB, QaL, Qa4, Qa0, Qa6, Qa7, get0, get1, get2, get3, QaN, cond_true, cond_false, List.length_cons, List.length_nil, Nat.zero_add, Nat.reduceAdd, Nat.reduceBEq, beq_self_eq_true, Qay, Qav]
 refine (QdY (enc := Qba) b F (15, wLeg ++ s370) 24 (by decide) (by omega) _).trans ?_
 have hl : (F ++ if b then [(15, wLeg ++ s370)] else []).length ≤ 1000 := by rw [List.length_append]; have := QAt b (15, wLeg ++ s370); omega
 generalize (F ++ if b then [(15, wLeg ++ s370)] else []) = F1 at hl
 apply QAw
 ·exact hl
 ·exact h1
 ·exact h2
theorem QAs (n yn : Nat) (ja : Bool) (aair2 : List (List CV)) (jb : Bool) (adis4 : List (List CV)) (bcar5 : List UInt8) (jg jd jf jc : Int) (je : Bool) (bleg12 : List (List CV)) (w6 : Int) (s370 : List UInt8) (wW : Bool × List (List CV)) (c363 : List CV) (yA yy yw yx yL yS : CV) (F : List Ft) (hF : F.length ≤ 800) (sa sb : Bs) (aps : List Ap) (b d a : Bool)
  (h3 : C lb n QbN [.agg [.list ja aair2, .list jb adis4], yA] = some (Qg1 sa aps)) (h4 : C lb n QbN [.agg [.list ja aair2, .list jb adis4], yy] = some (Qg1 sb aps))
  (h0 : C lb n QbF [.list je bleg12, .int .i64 w6] = some (.bool b)) (h1 : C lb n QdM [yw] = some (.bool d)) (h2 : C lb n QdM [yx] = some (.bool a)) :
  QgR lb n yn ja aair2 jb adis4 bcar5 jg jd jf jc je bleg12 w6 s370 wW c363 yA yy yw yx yL yS F.isEmpty (F.map Qba) = Qce lb n yn ja aair2 jb adis4 bcar5 jg jd jf jc je bleg12 wW
   (((F ++ if (Qcx sa aps).isSome && (Qcx sb aps).isSome then [] else [(14, wLeg ++ s370)]) ++ if b then [(15, wLeg ++ s370)] else []) ++ if d || a then [(2, wLeg ++ s370)] else []).isEmpty
   ((((F ++ if (Qcx sa aps).isSome && (Qcx sb aps).isSome then [] else [(14, wLeg ++ s370)]) ++ if b then [(15, wLeg ++ s370)] else []) ++ if d || a then [(2, wLeg ++ s370)] else []).map Qba) (IntKind.wrap .i64 (w6 + 1)) := by
 rw [Qqj]
 refine stO _ h3 (stO _ rfl (stO _ rfl (stO _ rfl (stO _ rfl (stO _ rfl (stC rfl (stO _ rfl (stO _ rfl (stO _ rfl (stO _ rfl (stO _ rfl (stO _ h4 (stO _ rfl (stO _ rfl (stO _ rfl (stO _ rfl (stO _ rfl (stC rfl (stO _ rfl (stO _ rfl (stO _ rfl (stO _ rfl (stO _ rfl (stO _ rfl ?_))))))))))))))))))))))))
 refine (QpJ _ _ _ _).trans ?_
 refine (QmX (enc := Qba) ((Qcx sa aps).isSome && (Qcx sb aps).isSome) F (14, wLeg ++ s370) 24 (by decide) (by omega) _).trans ?_
 have hl : (F ++ if (Qcx sa aps).isSome && (Qcx sb aps).isSome then [] else [(14, wLeg ++ s370)]).length ≤ 900 := by rw [List.length_append]; have := QmN ((Qcx sa aps).isSome && (Qcx sb aps).isSome) (14, wLeg ++ s370); omega
 generalize (F ++ if (Qcx sa aps).isSome && (Qcx sb aps).isSome then [] else [(14, wLeg ++ s370)]) = F1 at hl
 apply QAD
 ·exact hl
 ·exact h0
 ·exact h1
 ·exact h2
theorem Qyl (p : Pc) (q : List Lg) (x : Lg) (s : Bs) : (legE p q x).map (fun e => (e, s)) =
  (((if Qes x.eq 3 3 then [] else [(5, s)]) ++ (if (Qcx x.fro p.aps).isSome && (Qcx x.to p.aps).isSome then [] else [(14, s)])) ++ (if brk q x then [(15, s)] else [])) ++ (if !okM x.dep || !okM x.arr then [((2, s) : Ft)] else []) := by
 unfold legE Qng
 cases Qes x.eq 3 3 <;> cases (Qcx x.fro p.aps).isSome && (Qcx x.to p.aps).isSome <;> cases brk q x <;> cases okM x.dep <;> cases okM x.arr <;> rfl
theorem Qzj (d : Int) (f : Fl) (p : Pc) (hp : Qbw p) (hl : f.legs.length ≤ 1000) (h : 0 ≤ d ∧ d < 36525) : Evt fun n => (C lb n Qcr [pcv p, flcv f, .int .i64 d] = some (.list f.legs.isEmpty ((Qkl p f d).map dtcv)) ∧
  C lb n Qby [.list f.legs.isEmpty ((Qkl p f d).map dtcv)] = some (.bool (ordF p f.legs d))) ∧ C lb n Qh6 [.int .i64 d] = some (.str (Qn3 d)) := by
 refine Evt.and (Evt.and (Qut lb p hp f hl d) ?_) (Qti lb d h.1 h.2)
 have := Qp2 lb f.legs.isEmpty (Qkl p f d) (by unfold Qkl; rw [List.length_map]; exact hl)
 rw [Qxe] at this
 exact this
theorem QmD (d : Int) : (Qn3 d).length = 10 := rfl
theorem Qzo (p : Pc) (hp : Qbw p) (f : Fl) (hl : f.legs.length ≤ 1000) (vC : Int) (wW : Bool × List (List CV)) (b0 : Bool) (D : List Int) (hD : D.length ≤ 800) (hd : ∀ d ∈ D, 0 ≤ d ∧ d < 36525) :
  Evt fun n => QdT lb n n p.an (p.aps.map apcv) p.dn (p.dis.map dicv) f.car f.num f.fr f.to f.days f.ln (f.legs.map lgcv) vC (.list b0 (dcv D)) wW true [] 0 = some (Qb9 (QcI p f.legs D)) := by
 refine Evt.diag (m := D.length) (QdF (enc := ienc) (l := D) (by omega) (P := fun q t n k => QdT lb n k p.an (p.aps.map apcv) p.dn (p.dis.map dicv) f.car f.num f.fr f.to f.days f.ln (f.legs.map lgcv) vC (.list b0 (dcv D)) wW true [] (q.length : Int) = some (Qb9 (QcI p f.legs t))) ?_ ?_ D [] rfl)
 ·refine .all fun n k => ?_
  rw [Qep]
  refine stT rfl (stO _ rfl (stF (decF (by simp [dcv])) ?_))
  rw [QgU]
  rfl
 ·intro q d t hq hlt hat hw hev
  refine Evt.imp2 hev (Qzj lb d f p hp hl (hd d (by rw [← hq]; simp))) fun n hn hc k hk => ?_
  have hn := hn k hk
  obtain ⟨⟨c1, c2⟩, c3⟩ := hc
  have hat : atL (dcv D) (q.length : Int) = some [.int .i64 d] := hat
  have hlt : (q.length : Int) < ((dcv D).length : Int) := hlt
  rw [Qep]
  refine stT rfl (stO _ rfl (stT (decT hlt) (stO _ rfl (stO _ hat (stC rfl (stO _ rfl (stO _ c1 (stO _ c2 (stO _ rfl ?_)))))))))
  unfold QcI
  cases ho : ordF p f.legs d with
  | true =>
   rw [hw]
   exact hn
  | false =>
   refine stT rfl (stO _ rfl (stO _ hat (stC rfl (stO _ rfl (stO _ c3 (stO _ rfl (stC (decT (by rw [QmD]; decide)) (stC rfl ?_))))))))
   obtain ⟨k, rfl⟩ : ∃ m, k = m + 1 := ⟨k - 1, by omega⟩
   rw [Qep]
   refine stF rfl ?_
   rw [QgU]
   rfl
theorem Qzb (p : Pc) (hp : Qbw p) (f : Fl) (hl : f.legs.length ≤ 6) (hx : ∀ x ∈ f.legs, x.eq.length ≤ 281474976710656) (wW : Bool × List (List CV)) (H : List Ft) (hH : H.length ≤ 10) :
  Evt fun n => Qce lb n n p.an (p.aps.map apcv) p.dn (p.dis.map dicv) f.car f.num f.fr f.to f.days f.ln (f.legs.map lgcv) wW H.isEmpty (H.map Qba) 0 = some (Qb9 (if H ++ Qa2 p [] f.legs = [] then QcI p f.legs (Qat f.fr f.to f.days) else H ++ Qa2 p [] f.legs)) := by
 have key := QdF (enc := lgcv) (l := f.legs) (by omega) (P := fun q t n k => Qce lb n k p.an (p.aps.map apcv) p.dn (p.dis.map dicv) f.car f.num f.fr f.to f.days f.ln (f.legs.map lgcv) wW (H ++ Qa2 p [] q).isEmpty ((H ++ Qa2 p [] q).map Qba) (q.length : Int) =
   some (Qb9 (if H ++ Qa2 p [] f.legs = [] then QcI p f.legs (Qat f.fr f.to f.days) else H ++ Qa2 p [] f.legs))) (by
  refine Evt.imp2 (Evt.and (Qji lb f.fr f.to f.days) (Evt.ge 1)) (Qzo lb p hp f (by omega) (f.legs.length : Int) wW (Qat f.fr f.to f.days).isEmpty (Qat f.fr f.to f.days) (Qh9 _ _ _) fun d hd => ⟨(QeL hd).1, (QeL hd).2.1⟩) fun n h1 h2 k => ?_
  rw [QiG]
  refine stF (decF (by simp)) ?_
  rw [Qp1]
  refine stO _ h1.1 ?_
  generalize H ++ Qa2 p [] f.legs = F
  cases F with
  | nil =>
   rw [if_pos rfl]
   exact h2
  | cons e F =>
   rw [if_neg (by simp)]
   obtain ⟨m, hm⟩ : ∃ m, n = m + 1 := ⟨n - 1, by omega⟩
   have : ∀ k', k' = n → QdT lb n k' p.an (p.aps.map apcv) p.dn (p.dis.map dicv) f.car f.num f.fr f.to f.days f.ln (f.legs.map lgcv) (f.legs.length : Int) (.list (Qat f.fr f.to f.days).isEmpty (dcv (Qat f.fr f.to f.days))) wW (e :: F).isEmpty ((e :: F).map Qba) 0 = some (Qb9 (e :: F)) := by
    intro k' ek
    rw [show k' = m + 1 by omega, Qep]
    refine stF (beqF (by simp; omega)) ?_
    rw [QgU]
    rfl
   exact this n rfl) (by
  intro q x t hq hlt hat hw hev
  have hll : f.legs.length = q.length + (t.length + 1) := by rw [← hq]; simp
  have hil := QeO (z := (q.length : Int)) (by omega) (by omega)
  have hF : (H ++ Qa2 p [] q).length ≤ 100 := by rw [List.length_append]; have := Qi1 p q []; omega
  refine Evt.imp2 hev (Evt.imp2 (Evt.imp2 (Evt.imp2 (Qi8 lb p x.fro hp.1) (Qi8 lb p x.to hp.1) fun n a b => And.intro a b) (Evt.imp2 (QnJ lb x.eq 3 3 (by have := hx x (by rw [← hq]; simp); omega)) (QwO lb f.ln f.legs q t x hq (by omega)) fun n a b => And.intro a b) fun n a b => And.intro a b)
   (Evt.imp2 (Evt.imp2 (QoK lb x.dep) (QoK lb x.arr) fun n a b => And.intro a b) (Qfu lb (q.length : Int) (by omega) (by omega)) fun n a b => And.intro a b) fun n a b => And.intro a b) fun n hn hc k hk => ?_
  obtain ⟨⟨⟨a1, a2⟩, a3, a4⟩, ⟨a5, a6⟩, a7⟩ := hc
  have hn := hn k hk
  rw [QiG]
  refine stT (decT hlt) (stO _ hat (stC rfl (stO _ rfl (stO _ rfl (stO _ rfl (stO _ rfl (stO _ rfl (stO _ a7 (stO _ rfl (stC (decT (by simp; omega)) (stO _ a3 (stO _ rfl ?_))))))))))))
  refine (QmX (enc := Qba) (Qes x.eq 3 3) (H ++ Qa2 p [] q) (5, wLeg ++ Lib.itoa (q.length : Int)) 24 (by decide) (by omega) _).trans ?_
  refine (QAs lb (hF := by rw [List.length_append]; have := QmN (Qes x.eq 3 3) (5, wLeg ++ Lib.itoa (q.length : Int)); omega) (h3 := a1) (h4 := a2) (h0 := a4) (h1 := a5) (h2 := a6) ..).trans ?_
  rw [Qo7, ← List.append_assoc, Qyl, ← hw] at hn
  simp only [List.append_assoc] at hn ⊢
  exact hn) f.legs [] rfl
 refine (Evt.diag key).mono fun n hn => ?_
 simpa [Qa2] using hn
theorem Qyx (f : Fl) (h : ¬ (f.legs.length < 1 ∨ f.legs.length > 6)) : QfS f = QdW f := by
 unfold QfS
 rw [decF (by omega), decF (by omega)]
 simp
theorem Qit (p : Pc) (hp : Qbw p) (f : Fl) (hc : f.car.length ≤ 281474976710656) (hx : ∀ x ∈ f.legs, x.eq.length ≤ 281474976710656) : Ret lb Qam [pcv p, flcv f] (Qb9 (QaT p f)) := by
 refine .top rfl (.eq (fun n => by rw [Qud]) ?_)
 refine .call (QuB lb f hc) ?_
 simp only [Qa0, QaF, List.length_map]
 unfold QaT
 by_cases h : f.legs.length < 1 ∨ f.legs.length > 6
 ·rw [if_pos h]
  refine .all fun n => ?_
  refine (QkO _ _ _ _).trans (stT (by rw [Bool.or_eq_true, decide_eq_true_eq, decide_eq_true_eq]; omega) rfl)
 ·rw [if_neg h]
  refine (Qzb lb p hp f (by omega) hx ((QfS f).isEmpty, (QfS f).map Qba) (QdW f) (by have := QjO f; omega)).mono fun n hn => ?_
  refine stF (decF (by omega)) (stF (decF (by omega)) ?_)
  rw [Qyx f h] at hn ⊢
  exact hn
end Go.Proofs
set_option linter.unusedSimpArgs false
namespace Go.Proofs
open Go.Am
variable (lb : Nat)
theorem Qua (p : Pc) (f : Fl) (w9 : CV) (i : Nat) (hi : i ≤ 100) (E : List Int) (hE : E.length ≤ 1000) (F : List Ft) (hF : F.length ≤ 10000) (r : CV) :
  ∀ u q, q ++ u = E → Evt fun n => ∀ j k, u.length < j →
   Qdw lb n k p.an (p.aps.map apcv) p.dn (p.dis.map dicv) f.car f.num f.fr f.to f.days f.ln (f.legs.map lgcv) w9 (IntKind.wrap .i64 ((i : Int) + 1)) (F ++ E.map fun e => (e, wLeg ++ Lib.itoa (i : Int))).isEmpty ((F ++ E.map fun e => (e, wLeg ++ Lib.itoa (i : Int))).map Qba) = some r →
   Qfr lb n j k p.an (p.aps.map apcv) p.dn (p.dis.map dicv) f.car f.num f.fr f.to f.days f.ln (f.legs.map lgcv) w9 (i : Int) (.list E.isEmpty (E.map ienc)) (E.isEmpty, E.map ienc) (q.length : Int) (F ++ q.map fun e => (e, wLeg ++ Lib.itoa (i : Int))).isEmpty ((F ++ q.map fun e => (e, wLeg ++ Lib.itoa (i : Int))).map Qba) = some r
 | [], q, h => .all fun n j k hj hr => by
  obtain ⟨j, rfl⟩ : ∃ m, j = m + 1 := ⟨j - 1, by simp at hj; omega⟩
  have h : q = E := by simpa using h
  subst h
  rw [QgM]
  refine stF (decF (by simp)) ?_
  rw [QmH]
  exact hr
 | e :: u, q, h => by
  have hq : E.length = q.length + (u.length + 1) := by rw [← h]; simp
  have hat : atL (E.map ienc) (q.length : Int) = some (ienc e) := QaG (by rw [← h]; simp)
  have hil := QeO (z := (i : Int)) (by omega) (by omega)
  refine (Evt.imp2 (Qua p f w9 i hi E hE F hF r u (q ++ [e]) (by rw [← h]; simp)) (Qpu lb (i : Int) (by omega) (by omega)) fun n h1 h2 => ?_)
  intro j k hj hr
  obtain ⟨j, rfl⟩ : ∃ m, j = m + 1 := ⟨j - 1, by simp at hj; omega⟩
  have h1 := h1 j k (by simp at hj; omega) hr
  rw [QgM]
  refine stT (decT (by simp; omega)) (stO _ rfl (stO _ hat (stC rfl (stO _ rfl (stO _ h2 (stO _ rfl (stC (decT (by simp; omega)) (stC rfl (stC (Qa8 (by simp; omega) (by omega)) ?_)))))))))
  rw [Qaz (by omega) (by omega), show (q.length : Int) + 1 = ((q ++ [e]).length : Int) by simp, Qbr (F ++ q.map fun e => (e, wLeg ++ Lib.itoa (i : Int))) (e, wLeg ++ Lib.itoa (i : Int))]
  simpa [List.map_append, List.append_assoc, Qba, wLeg] using h1
theorem QAb (d : Int) (f : Fl) (p : Pc) (hp : Qbw p) (hl : f.legs.length ≤ 1000) (h : 0 ≤ d ∧ d < 36525) : Evt fun n => C lb n Qbg [pcv p, .list f.ln (f.legs.map lgcv), .int .i64 d] = some (.bool (ordF p f.legs d)) ∧ C lb n QeW [.int .i64 d] = some (.str (Qn3 d)) :=
 Evt.and (Qm2 lb p hp f.ln f.legs hl d) (QmP lb d h.1 h.2)
theorem Qzs (p : Pc) (hp : Qbw p) (f : Fl) (hl : f.legs.length ≤ 1000) (w9 : CV) (b0 : Bool) (D : List Int) (hD : D.length ≤ 800) (hd : ∀ d ∈ D, 0 ≤ d ∧ d < 36525) :
  Evt fun n => Qd6 lb n n p.an (p.aps.map apcv) p.dn (p.dis.map dicv) f.car f.num f.fr f.to f.days f.ln (f.legs.map lgcv) w9 (.list b0 (dcv D)) (b0, dcv D) true [] 0 = some (Qb9 (QcI p f.legs D)) := by
 refine Evt.diag (m := D.length) (QdF (enc := ienc) (l := D) (by omega) (P := fun q t n k => Qd6 lb n k p.an (p.aps.map apcv) p.dn (p.dis.map dicv) f.car f.num f.fr f.to f.days f.ln (f.legs.map lgcv) w9 (.list b0 (dcv D)) (b0, dcv D) true [] (q.length : Int) = some (Qb9 (QcI p f.legs t))) ?_ ?_ D [] rfl)
 ·refine .all fun n k => ?_
  rw [Qhe]
  refine stF (decF (by simp [dcv])) ?_
  rw [Qmx]
  rfl
 ·intro q d t hq hlt hat hw hev
  refine Evt.imp2 hev (QAb lb d f p hp hl (hd d (by rw [← hq]; simp))) fun n hn hc k hk => ?_
  have hn := hn k hk
  obtain ⟨c1, c2⟩ := hc
  have hat : atL (dcv D) (q.length : Int) = some [.int .i64 d] := hat
  have hlt : (q.length : Int) < ((dcv D).length : Int) := hlt
  rw [Qhe]
  refine stT (decT hlt) (stO _ rfl (stO _ hat (stC rfl (stO _ rfl (stO _ c1 (stO _ rfl ?_))))))
  unfold QcI
  cases ho : ordF p f.legs d with
  | true =>
   rw [hw]
   exact hn
  | false =>
   refine stT rfl (stO _ c2 (stO _ rfl (stC (decT (by rw [QmD]; decide)) (stC rfl ?_))))
   rw [Qnp]
   rfl
theorem QzH (p : Pc) (hp : Qbw p) (f : Fl) (hl : f.legs.length ≤ 6) (hx : ∀ x ∈ f.legs, x.eq.length ≤ 281474976710656) (w9 : CV) (H : List Ft) (hH : H.length ≤ 10) :
  Evt fun n => Qdw lb n n p.an (p.aps.map apcv) p.dn (p.dis.map dicv) f.car f.num f.fr f.to f.days f.ln (f.legs.map lgcv) w9 0 H.isEmpty (H.map Qba) = some (Qb9 (if H ++ Qa2 p [] f.legs = [] then QcI p f.legs (Qat f.fr f.to f.days) else H ++ Qa2 p [] f.legs)) := by
 have key := QdF (enc := lgcv) (l := f.legs) (by omega) (P := fun q t n k => Qdw lb n k p.an (p.aps.map apcv) p.dn (p.dis.map dicv) f.car f.num f.fr f.to f.days f.ln (f.legs.map lgcv) w9 (q.length : Int) (H ++ Qa2 p [] q).isEmpty ((H ++ Qa2 p [] q).map Qba) =
   some (Qb9 (if H ++ Qa2 p [] f.legs = [] then QcI p f.legs (Qat f.fr f.to f.days) else H ++ Qa2 p [] f.legs))) (by
  refine Evt.imp2 (Qqh lb f.fr f.to f.days) (Qzs lb p hp f (by omega) w9 (Qat f.fr f.to f.days).isEmpty (Qat f.fr f.to f.days) (Qh9 _ _ _) fun d hd => ⟨(QeL hd).1, (QeL hd).2.1⟩) fun n h1 h2 k => ?_
  rw [QgP]
  refine stF (decF (by simp)) ?_
  rw [Qm3]
  generalize H ++ Qa2 p [] f.legs = F
  cases F with
  | nil =>
   rw [if_pos rfl]
   exact stF rfl (stO _ h1 (stO _ rfl h2))
  | cons e F =>
   rw [if_neg (by simp)]
   exact stT (decT (by simp)) rfl) (by
  intro q x t hq hlt hat hw hev
  have hll : f.legs.length = q.length + (t.length + 1) := by rw [← hq]; simp
  have hF : (H ++ Qa2 p [] q).length ≤ 100 := by rw [List.length_append]; have := Qi1 p q []; omega
  have inner := Qua lb p f w9 q.length (by omega) (legE p q x) (by have := Qpp p q x; omega) (H ++ Qa2 p [] q) (by omega) (Qb9 (if H ++ Qa2 p [] f.legs = [] then QcI p f.legs (Qat f.fr f.to f.days) else H ++ Qa2 p [] f.legs)) (legE p q x) [] rfl
  refine Evt.imp2 hev (Evt.imp2 (inner.and (Evt.ge 5)) (Qrp lb p hp f.ln f.legs q t x hq (by omega) (hx x (by rw [← hq]; simp))) fun n a b => And.intro a b) fun n hn hc k hk => ?_
  obtain ⟨⟨a1, a2⟩, a3⟩ := hc
  have hn := hn k hk
  have hlE := Qpp p q x
  rw [QgP]
  refine stT (decT hlt) (stO _ a3 (stO _ rfl ?_))
  rw [Qo7, ← List.append_assoc] at hn
  have a1 := a1 n k (by omega) (by rw [hw]; exact hn)
  simpa using a1) f.legs [] rfl
 refine (Evt.diag key).mono fun n hn => ?_
 simpa [Qa2] using hn
theorem QAG (p : Pc) (hp : Qbw p) (f : Fl) (hx : ∀ x ∈ f.legs, x.eq.length ≤ 281474976710656) (w9 : CV) :
  Evt fun n => Qfl lb n p.an (p.aps.map apcv) p.dn (p.dis.map dicv) f.car f.num f.fr f.to f.days f.ln (f.legs.map lgcv) w9 (QdW f).isEmpty ((QdW f).map Qba) = some (Qb9 (QaT p f)) := by
 have hg := QjO f
 unfold QaT
 by_cases h : f.legs.length < 1 ∨ f.legs.length > 6
 ·rw [if_pos h]
  refine .all fun n => ?_
  rw [Qii]
  have e : QfS f = QdW f ++ [(4, QnU)] := by
   unfold QfS
   rw [if_pos (by rw [Bool.or_eq_true, decide_eq_true_eq, decide_eq_true_eq]; omega)]
  rw [e]
  refine (QkO _ _ _ _).trans (stT (by rw [Bool.or_eq_true, beq_iff_eq, decide_eq_true_eq, List.length_map]; omega) (stC (Qa8 (by simp; omega) (by omega)) ?_))
  rw [Qbr (QdW f) (4, QnU)]
  simp [Qb9, Qba, QnU]
 ·rw [if_neg h]
  refine (QzH lb p hp f (by omega) hx w9 (QdW f) (by omega)).mono fun n hn => ?_
  rw [Qii]
  refine stF (beqF (by rw [List.length_map]; omega)) (stF (decF (by rw [List.length_map]; omega)) ?_)
  exact hn
theorem Qjb (p : Pc) (hp : Qbw p) (f : Fl) (hc : f.car.length ≤ 281474976710656) (hx : ∀ x ∈ f.legs, x.eq.length ≤ 281474976710656) : Ret lb Qai [pcv p, flcv f] (Qb9 (QaT p f)) := by
 refine .top rfl (Evt.imp2 (Evt.imp2 (Qpi lb f.car (by omega)) (QbY lb f.fr f.to f.days) fun n a b => And.intro a b) (QAG lb p hp f hx (.int .i64 (perE f.fr f.to f.days))) fun n hc h3 => ?_)
 obtain ⟨a1, a2⟩ := hc
 rw [QpU]
 refine stO _ a1 (stO _ rfl ?_)
 refine (Qrl (enc := Qba) (Qdy f.car) (5, QfJ) _).trans ?_
 rw [QmG, QkO]
 refine (QdY (enc := Qba) _ _ (2, Qfi) 24 (by decide) (by have := QmN (Qdy f.car) (5, QfJ); omega) _).trans ?_
 rw [Qnj]
 refine stO _ a2 (stO _ rfl ?_)
 have e2 : (if decide (f.num < 1) || decide (f.num > 9999) then [(2, Qfi)] else []) = (if !(decide (f.num < 1) || decide (f.num > 9999)) then [] else [((2, Qfi) : Ft)]) := by
  cases (decide (f.num < 1) || decide (f.num > 9999)) <;> rfl
 rw [e2]
 simp only [Qav, QaN]
 refine (QdY (enc := Qba) _ _ (perE f.fr f.to f.days, wPeriod) 24 (by decide) (by
  have := QmN (Qdy f.car) (5, QfJ)
  have := QmN (!(decide (f.num < 1) || decide (f.num > 9999))) (2, Qfi)
  rw [List.length_append]; omega) _).trans ?_
 exact h3
end Go.Proofs
