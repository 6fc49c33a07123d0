/- Chapter 3 on plain data: the date of a day, by the program and by its reference. Conditions: as each says. -/
import Derived.Test.YtdcpdknginpohaaGreatDoorKA
import Derived.Test.YtdcpdknginpohaaGreatDoorGb
import Derived.Test.YtdcpdknginpohaaGreatDoorRA
set_option linter.unusedSimpArgs false
namespace Go.Proofs
open Go.Am
variable (lb : Nat)
def lenF (y m : Int) : Int := if m = 2 then (if Int.tmod y 4 = 0 then 29 else 28) else if m = 4 ∨ m = 6 ∨ m = 9 ∨ m = 11 then 30 else 31
theorem Qv1 (y m : Int) (h : 1 ≤ m ∧ m ≤ 12) : QiD y m = some (lenF y m) := by
 have : m = 1 ∨ m = 2 ∨ m = 3 ∨ m = 4 ∨ m = 5 ∨ m = 6 ∨ m = 7 ∨ m = 8 ∨ m = 9 ∨ m = 10 ∨ m = 11 ∨ m = 12 := by omega
 rcases this with rfl | rfl | rfl | rfl | rfl | rfl | rfl | rfl | rfl | rfl | rfl | rfl
 ·rfl
 ·unfold QiD lenF
  by_cases h : Int.tmod y 4 = 0
  ·rw [if_pos ⟨rfl, h⟩, if_pos rfl, if_pos h]
  ·rw [if_neg (fun q => h q.2), if_pos (by decide), if_pos rfl, if_neg h]
   rfl
 all_goals rfl
theorem Ql8 (y m : Int) (h : 1 ≤ m ∧ m ≤ 12) : Ret lb Qeg [.int .i64 y, .int .i64 m] (.int .i64 (lenF y m)) :=
 .lib (s := QiA) rfl (by
  show (QiD y m).map (CV.int .i64 ·) = _
  rw [Qv1 y m h]; rfl)
theorem Qhr (y m : Int) : Ret lb QcJ [.int .i64 y, .int .i64 m] (.int .i64 (lenF y m)) := by
 refine .top rfl (.eq (fun n => by rw [QsE]) (.all fun n => ?_))
 unfold lenF
 simp only [QoQ]
 by_cases h4 : m = 4
 ·subst h4; rfl
 by_cases h6 : m = 6
 ·subst h6; rfl
 by_cases h9 : m = 9
 ·subst h9; rfl
 rw [beqF h4, cond_false, beqF h6, cond_false, beqF h9, cond_false]
 by_cases h11 : m = 11
 ·subst h11; rfl
 rw [beqF h11, cond_false]
 by_cases h2 : m = 2
 ·subst h2
  rw [beqT rfl, cond_true, if_pos rfl]
  by_cases h : Int.tmod y 4 = 0
  ·rw [beqT h, cond_true, if_pos h]
  ·rw [beqF h, cond_false, if_neg h]
 ·rw [beqF h2, cond_false, if_neg h2, if_neg (by omega)]
theorem Qdz (y m : Int) : 28 ≤ lenF y m ∧ lenF y m ≤ 31 := by
 unfold lenF
 split
 ·split <;> omega
 ·split <;> omega
def Qa1 (y : Int) : Int := 365 * (y - 2000) + Int.tdiv (y - 2000 + 3) 4
theorem QhQ (y : Int) (h : 2000 ≤ y ∧ y ≤ 2200) : Ret lb Qez [.int .i64 y] (.int .i64 (Qa1 y)) := by
 refine .top rfl (.eq (fun n => by rw [QnP]) (.of ?_))
 have h1 : 0 ≤ Int.tdiv (y - 2000 + 3) 4 := Int.tdiv_nonneg (by omega) (by omega)
 have h2 : Int.tdiv (y - 2000 + 3) 4 ≤ 300 := by rw [Int.tdiv_eq_ediv_of_nonneg (by omega)]; omega
 rw [QaB (x := y - 2000) (by omega) (by omega), QaB (x := 365 * (y - 2000)) (by omega) (by omega), QaB (x := y - 2000 + 3) (by omega) (by omega), QaB (x := Int.tdiv (y - 2000 + 3) 4) (by omega) (by omega), QaB (by omega) (by omega)]
 rfl
theorem Qkh (y : Int) (h : 2000 ≤ y) : Qa1 (y + 1) = Qa1 y + (if Int.tmod y 4 = 0 then 366 else 365) := by
 unfold Qa1
 rw [Int.tdiv_eq_ediv_of_nonneg (by omega), Int.tdiv_eq_ediv_of_nonneg (by omega), Int.tmod_eq_emod_of_nonneg (by omega)]
 split <;> omega
def QbL (y : Int) : Nat → Int → Int → (Int × Int × Int) ⊕ Int
 | 0, _, rest => .inr rest
 | k + 1, m, rest => if rest < lenF y (m + 1) then .inl (y, m + 1, rest + 1) else QbL y k (m + 1) (rest - lenF y (m + 1))
def sumL (y : Int) : Nat → Int → Int
 | 0, _ => 0
 | k + 1, m => lenF y (m + 1) + sumL y k (m + 1)
theorem Qn1 (y : Int) : ∀ (k : Nat) (m : Int), 0 ≤ sumL y k m
 | 0, _ => by simp [sumL]
 | k + 1, m => by
  have := Qn1 y k (m + 1)
  have := Qdz y (m + 1)
  simp only [sumL]
  omega
theorem Qrt (y : Int) : sumL y 12 0 = (if Int.tmod y 4 = 0 then 366 else 365) := by
 have e1 : lenF y (0 + 1) = 31 := rfl
 have e2 : lenF y (0 + 1 + 1) = if Int.tmod y 4 = 0 then 29 else 28 := rfl
 have e3 : lenF y (0 + 1 + 1 + 1) = 31 := rfl
 have e4 : lenF y (0 + 1 + 1 + 1 + 1) = 30 := rfl
 have e5 : lenF y (0 + 1 + 1 + 1 + 1 + 1) = 31 := rfl
 have e6 : lenF y (0 + 1 + 1 + 1 + 1 + 1 + 1) = 30 := rfl
 have e7 : lenF y (0 + 1 + 1 + 1 + 1 + 1 + 1 + 1) = 31 := rfl
 have e8 : lenF y (0 + 1 + 1 + 1 + 1 + 1 + 1 + 1 + 1) = 31 := rfl
 have e9 : lenF y (0 + 1 + 1 + 1 + 1 + 1 + 1 + 1 + 1 + 1) = 30 := rfl
 have e10 : lenF y (0 + 1 + 1 + 1 + 1 + 1 + 1 + 1 + 1 + 1 + 1) = 31 := rfl
 have e11 : lenF y (0 + 1 + 1 + 1 + 1 + 1 + 1 + 1 + 1 + 1 + 1 + 1) = 30 := rfl
 have e12 : lenF y (0 + 1 + 1 + 1 + 1 + 1 + 1 + 1 + 1 + 1 + 1 + 1 + 1) = 31 := rfl
 simp only [sumL, e1, e2, e3, e4, e5, e6, e7, e8, e9, e10, e11, e12]
 split <;> omega
theorem Qj3 (y : Int) : ∀ (k : Nat) (m rest : Int), 0 ≤ rest → (∀ t, QbL y k m rest = .inl t → rest < sumL y k m) ∧ (∀ r, QbL y k m rest = .inr r → r = rest - sumL y k m ∧ 0 ≤ r)
 | 0, m, rest, h => by
  refine ⟨fun t q => (by cases q), fun r q => ?_⟩
  cases q
  exact ⟨by simp [sumL], h⟩
 | k + 1, m, rest, h => by
  have hr := Qdz y (m + 1)
  have hn := Qn1 y k (m + 1)
  by_cases c : rest < lenF y (m + 1)
  ·simp only [QbL, if_pos c, sumL]
   exact ⟨fun t q => (by omega), fun r q => (by cases q)⟩
  ·simp only [QbL, if_neg c, sumL]
   have ih := Qj3 y k (m + 1) (rest - lenF y (m + 1)) (by omega)
   refine ⟨fun t q => ?_, fun r q => ?_⟩
   ·have := ih.1 t q; omega
   ·have := ih.2 r q; omega
theorem Qoj (y rest : Int) (h : rest ≥ (if Int.tmod y 4 = 0 then 366 else 365)) : QbL y 12 0 rest = .inr (rest - (if Int.tmod y 4 = 0 then 366 else 365)) := by
 have h0 : 0 ≤ rest := by split at h <;> omega
 have hs := Qj3 y 12 0 rest h0
 rw [Qrt] at hs
 cases e : QbL y 12 0 rest with
 | inl t => have := hs.1 t e; omega
 | inr r => rw [(hs.2 r e).1]
theorem Qoi (y rest : Int) (h0 : 0 ≤ rest) (h : rest < (if Int.tmod y 4 = 0 then 366 else 365)) : ∃ t, QbL y 12 0 rest = .inl t := by
 have hs := Qj3 y 12 0 rest h0
 rw [Qrt] at hs
 cases e : QbL y 12 0 rest with
 | inl t => exact ⟨t, rfl⟩
 | inr r => have := hs.2 r e; omega
theorem Qoq (y : Int) : ∀ (k : Nat) (m rest : Int), 0 ≤ rest → (∀ t, QbL y k m rest = .inl t → t.1 = y ∧ m + 1 ≤ t.2.1 ∧ t.2.1 ≤ m + k ∧ 1 ≤ t.2.2 ∧ t.2.2 ≤ lenF y t.2.1) ∧ (∀ r, QbL y k m rest = .inr r → 0 ≤ r ∧ rest ≥ r + 28 * k)
 | 0, m, rest, h => by
  refine ⟨fun t q => (by cases q), fun r q => ?_⟩
  cases q
  exact ⟨h, by simp⟩
 | k + 1, m, rest, h => by
  have hr := Qdz y (m + 1)
  by_cases c : rest < lenF y (m + 1)
  ·simp only [QbL, if_pos c]
   refine ⟨fun t q => ?_, fun r q => by cases q⟩
   cases q
   simp only
   refine ⟨trivial, by omega, by omega, by omega, by omega⟩
  ·simp only [QbL, if_neg c]
   have ih := Qoq y k (m + 1) (rest - lenF y (m + 1)) (by omega)
   refine ⟨fun t q => ?_, fun r q => ?_⟩
   ·have := ih.1 t q
    refine ⟨this.1, by omega, by omega, this.2.2.2⟩
   ·have := ih.2 r q
    refine ⟨this.1, by omega⟩
def QkJ (D Y : Int) : Prop := 2000 ≤ Y ∧ Y ≤ 2099 ∧ Qa1 Y ≤ D ∧ D < Qa1 (Y + 1)
theorem Qow {a b : Int} (ha : 2000 ≤ a) (h : a ≤ b) : Qa1 a ≤ Qa1 b := by
 unfold Qa1
 rw [Int.tdiv_eq_ediv_of_nonneg (by omega), Int.tdiv_eq_ediv_of_nonneg (by omega)]
 omega
theorem Qpm {D a b : Int} (ha : QkJ D a) (hb : QkJ D b) : a = b := by
 rcases Int.lt_trichotomy a b with h | h | h
 ·have := Qow (a := a + 1) (b := b) (by have := ha.1; omega) (by omega)
  have := ha.2.2.2; have := hb.2.2.1; omega
 ·exact h
 ·have := Qow (a := b + 1) (b := a) (by have := hb.1; omega) (by omega)
  have := hb.2.2.2; have := ha.2.2.1; omega
def QsH (D : Int) : Nat → Int → Int
 | 0, y => y
 | k + 1, y => if Qa1 (y + 1) ≤ D then QsH D k (y + 1) else y
theorem Qta {D : Int} (hD : D < 36525) : ∀ (k : Nat) (y : Int), 2000 ≤ y → y + k = 2099 → Qa1 y ≤ D → QkJ D (QsH D k y)
 | 0, y, h0, h, h1 => by
  have : y = 2099 := by omega
  subst this
  exact ⟨by show (2000 : Int) ≤ 2099; omega, by show (2099 : Int) ≤ 2099; omega, h1, by show D < Qa1 2100; rw [show Qa1 2100 = 36525 by decide]; exact hD⟩
 | k + 1, y, h0, h, h1 => by
  unfold QsH
  split
  ·exact Qta hD k (y + 1) (by omega) (by omega) (by assumption)
  ·exact ⟨h0, by omega, h1, by omega⟩
def Qgd (D : Int) : Int := QsH D 99 2000
theorem QlC {D : Int} (h0 : 0 ≤ D) (hD : D < 36525) : QkJ D (Qgd D) := Qta hD 99 2000 (by omega) (by omega) (by rw [show Qa1 2000 = 0 by decide]; exact h0)
def Qdo (D : Int) : Int × Int × Int := match QbL (Qgd D) 12 0 (D - Qa1 (Qgd D)) with
 | .inl t => t
 | .inr _ => (0, 0, 0)
theorem QmQ {D : Int} (h0 : 0 ≤ D) (hD : D < 36525) : QbL (Qgd D) 12 0 (D - Qa1 (Qgd D)) = .inl (Qdo D) := by
 have hy := QlC h0 hD
 obtain ⟨t, ht⟩ := Qoi (Qgd D) (D - Qa1 (Qgd D)) (by have := hy.2.2.1; omega) (by have := hy.2.2.2; rw [Qkh _ hy.1] at this; omega)
 unfold Qdo
 rw [ht]
theorem QoF {D : Int} (h0 : 0 ≤ D) (hD : D < 36525) : 2000 ≤ (Qdo D).1 ∧ (Qdo D).1 ≤ 2099 ∧ 1 ≤ (Qdo D).2.1 ∧ (Qdo D).2.1 ≤ 12 ∧ 1 ≤ (Qdo D).2.2 ∧ (Qdo D).2.2 ≤ 31 := by
 have hy := QlC h0 hD
 have h := (Qoq (Qgd D) 12 0 (D - Qa1 (Qgd D)) (by have := hy.2.2.1; omega)).1 _ (QmQ h0 hD)
 have := Qdz (Qgd D) (Qdo D).2.1
 obtain ⟨h1, h2, h3, h4, h5⟩ := h
 have := hy.1; have := hy.2.1
 refine ⟨by omega, by omega, by omega, by omega, by omega, by omega⟩
def tri (t : Int × Int × Int) : CV := .tup [.int .i64 t.1, .int .i64 t.2.1, .int .i64 t.2.2]
theorem Qoz (D Y : Int) (yH : CV) (vF : Int) : ∀ (k m : Nat) (rest : Int), m + k = 12 → 0 ≤ rest → rest ≤ 1000 → ∀ t, QbL Y k (m : Int) rest = .inl t →
  Evt fun n => ∀ j, k < j → QeE lb n j D Y yH vF rest (m : Int) = some (tri t)
 | 0, m, rest, h, h0, h1, t, q => by cases q
 | k + 1, m, rest, h, h0, h1, t, q => by
  have hr := Qdz Y ((m : Int) + 1)
  have hw : IntKind.wrap .i64 ((m : Int) + 1) = (m : Int) + 1 := QaB (by omega) (by omega)
  have hlen := Ql8 lb Y ((m : Int) + 1) ⟨by omega, by omega⟩
  by_cases c : rest < lenF Y ((m : Int) + 1)
  ·simp only [QbL, if_pos c] at q
   cases q
   refine hlen.mono fun n hn j hj => ?_
   obtain ⟨j, rfl⟩ : ∃ m, j = m + 1 := ⟨j - 1, by omega⟩
   rw [Qgu, decT (by omega), cond_true, hw, hn]
   simp only [QaC, QaH, QaF, Qa0, QaX, Qa4, Qa3, get0, get1, get2, get3, QaL, cond_true, cond_false, List.length_cons, List.length_nil, Nat.zero_add, Nat.reduceAdd, Nat.reduceBEq, beq_self_eq_true, Qaw, Qas]
   rw [decT c, cond_true, QaB (x := rest + 1) (by omega) (by omega)]
   rfl
  ·simp only [QbL, if_neg c] at q
   refine Evt.imp2 hlen (Qoz D Y yH vF k (m + 1) (rest - lenF Y ((m : Int) + 1)) (by omega) (by omega) (by omega) t (by exact_mod_cast q)) fun n hn hi j hj => ?_
   obtain ⟨j, rfl⟩ : ∃ m, j = m + 1 := ⟨j - 1, by omega⟩
   rw [Qgu, decT (by omega), cond_true, hw, hn]
   simp only [QaC, QaH, QaF, Qa0, QaX, Qa4, Qa3, get0, get1, get2, get3, QaL, cond_true, cond_false, List.length_cons, List.length_nil, Nat.zero_add, Nat.reduceAdd, Nat.reduceBEq, beq_self_eq_true, Qaw, Qas]
   rw [decF c, cond_false, QaB (x := rest - lenF Y ((m : Int) + 1)) (by omega) (by omega)]
   exact_mod_cast hi j (by omega)
theorem QpS {D : Int} (h0 : 0 ≤ D) (hD : D < 36525) : ∀ (k : Nat) (y : Int), 2000 ≤ y → y + k = 2099 → Qa1 y ≤ D → Evt fun n => ∀ j, k < j → QeG lb n j D y = some (tri (Qdo D))
 | k, y, h1, h2, h3 => by
  have hf := QhQ lb (y + 1) ⟨by omega, by omega⟩
  have hw : IntKind.wrap .i64 (y + 1) = y + 1 := QaB (by omega) (by omega)
  by_cases c : Qa1 (y + 1) ≤ D
  ·match k, h2 with
   | 0, h2 =>
    exfalso
    have : y = 2099 := by omega
    subst this
    rw [show Qa1 (2099 + 1) = 36525 by decide] at c
    omega
   | k + 1, h2 =>
    refine Evt.imp2 hf (QpS h0 hD k (y + 1) (by omega) (by omega) c) fun n hn hi j hj => ?_
    obtain ⟨j, rfl⟩ : ∃ m, j = m + 1 := ⟨j - 1, by omega⟩
    rw [Qgw, hw, hn]
    simp only [QaC, QaH, QaF, Qa0, QaX, Qa4, Qa3, get0, get1, get2, get3, QaL, cond_true, cond_false, List.length_cons, List.length_nil, Nat.zero_add, Nat.reduceAdd, Nat.reduceBEq, beq_self_eq_true, Qaw, Qas]
    rw [decT c, cond_true]
    exact hi j (by omega)
  ·have hY : QkJ D y := ⟨h1, by omega, h3, by omega⟩
   have hy : y = Qgd D := Qpm hY (QlC h0 hD)
   have hm := Qoz lb D y (.int .i64 (Qa1 y)) (Qa1 y) 12 0 (D - Qa1 y) rfl (by omega) (by have := hY.2.2.2; rw [Qkh y h1] at this; split at this <;> omega) (Qdo D) (by rw [hy]; exact QmQ h0 hD)
   refine Evt.imp2 (Evt.imp2 hf (QhQ lb y ⟨by omega, by omega⟩) fun n a b => And.intro a b) (hm.and (Evt.ge 13)) fun n hn hi j hj => ?_
   obtain ⟨j, rfl⟩ : ∃ m, j = m + 1 := ⟨j - 1, by omega⟩
   rw [Qgw, hw, hn.1]
   simp only [QaC, QaH, QaF, Qa0, QaX, Qa4, Qa3, get0, get1, get2, get3, QaL, cond_true, cond_false, List.length_cons, List.length_nil, Nat.zero_add, Nat.reduceAdd, Nat.reduceBEq, beq_self_eq_true, Qaw, Qas]
   rw [decF c, cond_false, Ql4, hn.2]
   simp only [QaC, QaH, QaF, Qa0, QaX, Qa4, Qa3, get0, get1, get2, get3, QaL, cond_true, cond_false, List.length_cons, List.length_nil, Nat.zero_add, Nat.reduceAdd, Nat.reduceBEq, beq_self_eq_true, Qaw, Qas]
   rw [QaB (x := D - Qa1 y) (by omega) (by have : 0 ≤ Qa1 y := (by unfold Qa1; have := Int.tdiv_nonneg (a := y - 2000 + 3) (b := 4) (by omega) (by omega); omega); omega)]
   exact hi.1 n (by omega)
theorem QnF (D : Int) (h0 : 0 ≤ D) (hD : D < 36525) : Ret lb QaP [.int .i64 D] (tri (Qdo D)) := by
 refine .top rfl (.eq (fun n => by rw [QoG]) ?_)
 have q0 : 0 ≤ Int.tdiv D 366 := Int.tdiv_nonneg h0 (by decide)
 have q1 : Int.tdiv D 366 ≤ 99 := by rw [Int.tdiv_eq_ediv_of_nonneg h0]; omega
 simp only [decF (show ¬ D < 0 by omega), cond_false, decF (show ¬ D ≥ 36525 by omega), QaB (x := Int.tdiv D 366) (by omega) (by omega), QaB (x := 2000 + Int.tdiv D 366) (by omega) (by omega)]
 obtain ⟨k, hk⟩ := Int.eq_ofNat_of_zero_le (show 0 ≤ 2099 - (2000 + Int.tdiv D 366) by omega)
 refine Evt.diag (QpS lb h0 hD k (2000 + Int.tdiv D 366) (by omega) (by omega) ?_)
 unfold Qa1
 rw [Int.tdiv_eq_ediv_of_nonneg h0, Int.tdiv_eq_ediv_of_nonneg (by omega)]
 omega
def QjN (day y m : Int) (r : CV) : Prop := ∃ c, Evt fun n => ∀ k, c < k → Qf0 lb n k day y m = some r
theorem QvY {day y m : Int} (h : day < lenF y m) (h0 : 0 ≤ day) : QjN lb day y m (.tup [.int .i64 y, .int .i64 m, .int .i64 (day + 1)]) := by
 have := Qdz y m
 refine ⟨0, (Qhr lb y m).mono fun n hn k hk => ?_⟩
 obtain ⟨k, rfl⟩ : ∃ m, k = m + 1 := ⟨k - 1, by omega⟩
 rw [Qgn, hn]
 simp only [QaC, QaH, QaF, Qa0, QaX, Qa4, Qa3, get0, get1, get2, get3, QaL, cond_true, cond_false, List.length_cons, List.length_nil, Nat.zero_add, Nat.reduceAdd, Nat.reduceBEq, beq_self_eq_true, Qaw, Qas]
 rw [decF (by omega), cond_false, QqI, QaB (by omega) (by omega)]
theorem Qvs {day y m : Int} {r : CV} (h : lenF y m ≤ day) (hd : day ≤ 100000) (hm : 1 ≤ m ∧ m < 12) (hr : QjN lb (day - lenF y m) y (m + 1) r) : QjN lb day y m r := by
 obtain ⟨c, hc⟩ := hr
 have := Qdz y m
 refine ⟨c + 1, Evt.imp2 (Qhr lb y m) hc fun n hn hi k hk => ?_⟩
 obtain ⟨k, rfl⟩ : ∃ m, k = m + 1 := ⟨k - 1, by omega⟩
 rw [Qgn, hn]
 simp only [QaC, QaH, QaF, Qa0, QaX, Qa4, Qa3, get0, get1, get2, get3, QaL, cond_true, cond_false, List.length_cons, List.length_nil, Nat.zero_add, Nat.reduceAdd, Nat.reduceBEq, beq_self_eq_true, Qaw, Qas]
 rw [decT (by omega), cond_true, QaB (x := m + 1) (by omega) (by omega), beqF (by omega), cond_false, QaB (by omega) (by omega)]
 exact hi k (by omega)
theorem QvH {day y : Int} {r : CV} (h : lenF y 12 ≤ day) (hd : day ≤ 100000) (hy : 2000 ≤ y ∧ y ≤ 3000) (hr : QjN lb (day - lenF y 12) (y + 1) 1 r) : QjN lb day y 12 r := by
 obtain ⟨c, hc⟩ := hr
 have := Qdz y 12
 refine ⟨c + 1, Evt.imp2 (Qhr lb y 12) hc fun n hn hi k hk => ?_⟩
 obtain ⟨k, rfl⟩ : ∃ m, k = m + 1 := ⟨k - 1, by omega⟩
 rw [Qgn, hn]
 simp only [QaC, QaH, QaF, Qa0, QaX, Qa4, Qa3, get0, get1, get2, get3, QaL, cond_true, cond_false, List.length_cons, List.length_nil, Nat.zero_add, Nat.reduceAdd, Nat.reduceBEq, beq_self_eq_true, Qaw, Qas]
 rw [decT (by omega), cond_true, QaB (x := 12 + 1) (by omega) (by omega), beqT (by omega), cond_true, QaB (x := y + 1) (by omega) (by omega), QaB (by omega) (by omega)]
 exact hi k (by omega)
theorem Qmv (y : Int) (hy : 2000 ≤ y ∧ y ≤ 3000) {r : CV} : ∀ (k : Nat) (m day : Int), m + (k + 1) = 12 → 0 ≤ m → 0 ≤ day → day ≤ 100000 →
  (∀ t, QbL y (k + 1) m day = .inl t → r = tri t) → (∀ q, QbL y (k + 1) m day = .inr q → QjN lb q (y + 1) 1 r) → QjN lb day y (m + 1) r
 | k, m, day, h, hm, h0, h1, hl, hr => by
  have hlr := Qdz y (m + 1)
  by_cases c : day < lenF y (m + 1)
  ·simp only [QbL, if_pos c] at hl
   rw [hl _ rfl]
   exact QvY lb c h0
  ·simp only [QbL, if_neg c] at hl hr
   match k, h with
   | 0, h =>
    have : m + 1 = 12 := by omega
    rw [this] at c hlr hr ⊢
    exact QvH lb (by omega) h1 hy (hr _ rfl)
   | k + 1, h => exact Qvs lb (by omega) h1 ⟨by omega, by omega⟩ (Qmv y hy k (m + 1) (day - lenF y (m + 1)) (by omega) (by omega) (by omega) (by omega) hl hr)
theorem Qn2 {D : Int} (h0 : 0 ≤ D) (hD : D < 36525) : ∀ (k : Nat) (y : Int), 2000 ≤ y → y + k = 2099 → Qa1 y ≤ D → QjN lb (D - Qa1 y) y 1 (tri (Qdo D))
 | k, y, h1, h2, h3 => by
  have hf0 : 0 ≤ Qa1 y := by unfold Qa1; have := Int.tdiv_nonneg (a := y - 2000 + 3) (b := 4) (by omega) (by omega); omega
  have hst := Qkh y h1
  refine Qmv lb y ⟨h1, by omega⟩ 11 0 (D - Qa1 y) (by omega) (by omega) (by omega) (by omega) (fun t ht => ?_) fun q hq => ?_
  ·by_cases c : Qa1 (y + 1) ≤ D
   ·rw [Qoj y _ (by rw [hst] at c; omega)] at ht
    cases ht
   ·have hY : QkJ D y := ⟨h1, by omega, h3, by omega⟩
    have hy : y = Qgd D := Qpm hY (QlC h0 hD)
    have := QmQ h0 hD
    rw [← hy, ht] at this
    cases this
    rfl
  ·by_cases c : Qa1 (y + 1) ≤ D
   ·rw [Qoj y _ (by rw [hst] at c; omega)] at hq
    cases hq
    rw [show D - Qa1 y - (if Int.tmod y 4 = 0 then 366 else 365) = D - Qa1 (y + 1) by rw [hst]; omega]
    match k, h2 with
    | 0, h2 =>
     exfalso
     have : y = 2099 := by omega
     subst this
     rw [show Qa1 (2099 + 1) = 36525 by decide] at c
     omega
    | k + 1, h2 => exact Qn2 h0 hD k (y + 1) (by omega) (by omega) c
   ·obtain ⟨t, ht⟩ := Qoi y (D - Qa1 y) (by omega) (by rw [hst] at c; omega)
    rw [ht] at hq
    cases hq
theorem Quk (D : Int) (h0 : 0 ≤ D) (hD : D < 36525) : Ret lb Qct [.int .i64 D] (tri (Qdo D)) := by
 refine .top rfl (.eq (fun n => by rw [QuO]) ?_)
 simp only [decF (show ¬ D < 0 by omega), cond_false, decF (show ¬ D ≥ 36525 by omega)]
 obtain ⟨c, hc⟩ := Qn2 lb h0 hD 99 2000 (by omega) (by omega) (by rw [show Qa1 2000 = 0 by decide]; exact h0)
 rw [show Qa1 2000 = 0 by decide, Int.sub_zero] at hc
 exact Evt.diag hc
def twoS (z : Int) : Bs := [UInt8.ofNat (IntKind.wrap .u8 (IntKind.wrap .i64 (48 + IntKind.wrap .i64 (Int.tdiv z 10)))).toNat, UInt8.ofNat (IntKind.wrap .u8 (IntKind.wrap .i64 (48 + Int.tmod z 10))).toNat]
theorem Qzp (x : Int) : 0 ≤ IntKind.wrap .u8 x ∧ IntKind.wrap .u8 x < 256 := by
 unfold IntKind.wrap
 simp only [IntKind.bits, IntKind.signed]
 simp
 omega
theorem QrS (x y : Int) : bytesOf [[CV.int .u8 (IntKind.wrap .u8 x)], [CV.int .u8 (IntKind.wrap .u8 y)]] = some [UInt8.ofNat (IntKind.wrap .u8 x).toNat, UInt8.ofNat (IntKind.wrap .u8 y).toNat] := by
 simp only [bytesOf, Qzp, and_self, if_true, Option.map_some]
theorem QeH (z : Int) : Ret lb QdJ [.int .i64 z] (.str (twoS z)) :=
 .top rfl (.all fun n => by rw [Qpt, QrS, QaC]; rfl)
theorem QhF (z : Int) : Ret lb Qgr [.int .i64 z] (.str (twoS z)) :=
 .top rfl (.all fun n => by rw [Qwa, QrS, QaC]; rfl)
def Qnu (D : Int) : Bs := ((((twoS (IntKind.wrap .i64 (Int.tdiv (Qdo D).1 100)) ++ twoS (Int.tmod (Qdo D).1 100)) ++ [45]) ++ twoS (Qdo D).2.1) ++ [45]) ++ twoS (Qdo D).2.2
theorem QmR (D : Int) (h0 : 0 ≤ D) (hD : D < 36525) : Ret lb QeL [.int .i64 D] (.str (Qnu D)) := by
 refine .top rfl (.eq (fun n => by rw [QnK]) ?_)
 refine .call (QnF lb D h0 hD) ?_
 have hr := QoF h0 hD
 simp only [tri, QaC, QaH, QaF, Qa0, QaX, Qa4, Qa3, get0, get1, get2, get3, QaL, cond_true, cond_false, List.length_cons, List.length_nil, Nat.zero_add, Nat.reduceAdd, Nat.reduceBEq, beq_self_eq_true, Qaw, Qas]
 rw [show ((Qdo D).1 == 0) = false from beqF (by omega)]
 simp only [cond_false]
 refine .call (QeH lb _) (.call (QeH lb _) ?_)
 simp only [QaC, QaH, QaF, Qa0, QaX, Qa4, Qa3, get0, get1, get2, get3, QaL, cond_true, cond_false, List.length_cons, List.length_nil, Nat.zero_add, Nat.reduceAdd, Nat.reduceBEq, beq_self_eq_true, Qaw, Qas]
 refine .chk (by simp [twoS]) (.chk (by simp [twoS]) (.call (QeH lb _) ?_))
 simp only [QaC, QaH, QaF, Qa0, QaX, Qa4, Qa3, get0, get1, get2, get3, QaL, cond_true, cond_false, List.length_cons, List.length_nil, Nat.zero_add, Nat.reduceAdd, Nat.reduceBEq, beq_self_eq_true, Qaw, Qas]
 refine .chk (by simp [twoS]) (.chk (by simp [twoS]) (.call (QeH lb _) ?_))
 simp only [QaC, QaH, QaF, Qa0, QaX, Qa4, Qa3, get0, get1, get2, get3, QaL, cond_true, cond_false, List.length_cons, List.length_nil, Nat.zero_add, Nat.reduceAdd, Nat.reduceBEq, beq_self_eq_true, Qaw, Qas]
 exact .chk (by simp [twoS]) (.of rfl)
theorem Qsn (D : Int) (h0 : 0 ≤ D) (hD : D < 36525) : Ret lb QhI [.int .i64 D] (.str (Qnu D)) := by
 refine .top rfl (.eq (fun n => by rw [Qt0]) ?_)
 refine .call (Quk lb D h0 hD) ?_
 have hr := QoF h0 hD
 simp only [tri, QaC, QaH, QaF, Qa0, QaX, Qa4, Qa3, get0, get1, get2, get3, QaL, cond_true, cond_false, List.length_cons, List.length_nil, Nat.zero_add, Nat.reduceAdd, Nat.reduceBEq, beq_self_eq_true, Qaw, Qas]
 rw [show ((Qdo D).1 == 0) = false from beqF (by omega)]
 simp only [cond_false]
 refine .call (QhF lb _) (.call (QhF lb _) ?_)
 simp only [QaC, QaH, QaF, Qa0, QaX, Qa4, Qa3, get0, get1, get2, get3, QaL, cond_true, cond_false, List.length_cons, List.length_nil, Nat.zero_add, Nat.reduceAdd, Nat.reduceBEq, beq_self_eq_true, Qaw, Qas]
 refine .chk (by simp [twoS]) (.chk (by simp [twoS]) (.call (QhF lb _) ?_))
 simp only [QaC, QaH, QaF, Qa0, QaX, Qa4, Qa3, get0, get1, get2, get3, QaL, cond_true, cond_false, List.length_cons, List.length_nil, Nat.zero_add, Nat.reduceAdd, Nat.reduceBEq, beq_self_eq_true, Qaw, Qas]
 refine .chk (by simp [twoS]) (.chk (by simp [twoS]) (.call (QhF lb _) ?_))
 simp only [QaC, QaH, QaF, Qa0, QaX, Qa4, Qa3, get0, get1, get2, get3, QaL, cond_true, cond_false, List.length_cons, List.length_nil, Nat.zero_add, Nat.reduceAdd, Nat.reduceBEq, beq_self_eq_true, Qaw, Qas]
 exact .chk (by simp [twoS]) (.of rfl)
end Go.Proofs
set_option linter.unusedSimpArgs false
namespace Go.Proofs
open Go.Am
variable (lb : Nat)
theorem Qmf {α : Type} {enc : α → List CV} (c : Bool) (F : List α) (x : α) (m : Nat) (hm : m ≤ 1000) (hF : F.length ≤ 100000) (J : Bool → List (List CV) → Option CV) :
  (bif !c then chkO (room ((F.map enc).length + 1) m) (J (F.isEmpty && false) (F.map enc ++ [enc x])) else J F.isEmpty (F.map enc)) = J (F ++ if c then [] else [x]).isEmpty ((F ++ if c then [] else [x]).map enc) := by
 cases c with
 | false => simp only [Bool.not_false, cond_true, Qce (n := (F.map enc).length + 1) (b := m) (by simp; omega) hm, QaL, Bool.false_eq_true, if_false, List.map_append, List.map_cons, List.map_nil, QcS F x]
 | true => simp only [Bool.not_true, cond_false, if_true, List.append_nil]
theorem QdT {α : Type} {enc : α → List CV} (c : Bool) (F : List α) (x : α) (m : Nat) (hm : m ≤ 1000) (hF : F.length ≤ 100000) (J : Bool → List (List CV) → Option CV) :
  (bif c then chkO (room ((F.map enc).length + 1) m) (J (F.isEmpty && false) (F.map enc ++ [enc x])) else J F.isEmpty (F.map enc)) = J (F ++ if c then [x] else []).isEmpty ((F ++ if c then [x] else []).map enc) := by
 cases c with
 | true => simp only [cond_true, Qce (n := (F.map enc).length + 1) (b := m) (by simp; omega) hm, QaL, if_true, List.map_append, List.map_cons, List.map_nil, QcS F x]
 | false => simp only [cond_false, Bool.false_eq_true, if_false, List.append_nil]
theorem QkT {β : Type} (c d : Bool) (x y : β) : (bif c then x else bif d then x else y) = (bif c || d then x else y) := by cases c <;> rfl
theorem Qo6 {β : Type} (c d : Bool) (x y : β) : (bif !c then x else bif !d then x else y) = (bif !(c && d) then x else y) := by cases c <;> rfl
theorem QqO {α : Type} {enc : α → List CV} (c : Bool) (x : α) (J : Bool → List (List CV) → Option CV) :
  (bif !c then J false [enc x] else J true []) = J (if c then ([] : List α) else [x]).isEmpty ((if c then [] else [x]).map enc) := by cases c <;> rfl
def ienc (e : Int) : List CV := [CV.int .i64 e]
abbrev Ft := Int × Bs
def Qa7 (x : Ft) : List CV := [.int .i64 x.1, .str x.2]
def brk (q : List Lg) (x : Lg) : Bool := (match q.getLast? with | some y => !(x.fro == y.to) | none => false) || (q ++ [x]).any (fun z => z.fro == x.to)
theorem QtI (an : Bool) (l q t : List Lg) (x : Lg) (h : q ++ x :: t = l) (hl : l.length ≤ 1000) : Evt fun n => QcW lb n n an (l.map lgcv) (q.length : Int) 0 = some (.bool (!(q ++ [x]).any (fun z => z.fro == x.to))) := by
 have hll : l.length = q.length + (t.length + 1) := by rw [← h]; simp
 have hw : IntKind.wrap .i64 ((q.length : Int) + 1) = (q.length : Int) + 1 := QaB (by omega) (by omega)
 have htk : ((l.map lgcv).take (IntKind.wrap .i64 ((q.length : Int) + 1)).toNat).drop 0 = (q ++ [x]).map lgcv := by
  rw [hw, show ((q.length : Int) + 1).toNat = q.length + 1 by omega, List.drop_zero, ← List.map_take, ← h]
  congr 1
  rw [List.take_append, List.take_of_length_le (by omega)]
  simp
 have hlast : atL (l.map lgcv) (q.length : Int) = some (lgcv x) := Qa5 (by rw [← h]; simp)
 refine Evt.diag (m := (q ++ [x]).length) (QdA (enc := lgcv) (l := q ++ [x]) (by simp; omega) (P := fun r s n k => QcW lb n k an (l.map lgcv) (q.length : Int) (r.length : Int) = some (.bool (!s.any (fun z => z.fro == x.to)))) ?_ ?_ (q ++ [x]) [] rfl)
 ·refine .all fun n k => ?_
  rw [Qf2, htk, decF (by simp), cond_false, Qli]
  rfl
 ·intro r z s hrs hlt hat hw2 hev
  refine hev.mono fun n hn k hk => ?_
  have hn := hn k hk
  rw [Qf2, htk, decT hlt, cond_true]
  simp only [hat, hlast, lgcv, QaC, QaH, QaF, Qa0, QaX, Qa4, Qa3, get0, get1, get2, get3, QaL, cond_true, cond_false, List.length_cons, List.length_nil, Nat.zero_add, Nat.reduceAdd, Nat.reduceBEq, beq_self_eq_true, Qaw, Qas, get4, hw2]
  by_cases e : z.fro = x.to
  ·rw [show (z.fro == x.to) = true by simpa using e, cond_true, decT (by omega)]
   simp [e]
  ·have e' : (z.fro == x.to) = false := by simpa using e
   rw [e', cond_false, hn]
   simp [e']
theorem QuQ (an : Bool) (l q t : List Lg) (x : Lg) (h : q ++ x :: t = l) (hl : l.length ≤ 1000) : Ret lb QaS [.list an (l.map lgcv), .int .i64 (q.length : Int)] (.bool (!brk q x)) := by
 have hll : l.length = q.length + (t.length + 1) := by rw [← h]; simp
 have hall : (l.map lgcv).all (·.length == 5) = true := by simp [lgcv]
 have hw : IntKind.wrap .i64 ((q.length : Int) + 1) = (q.length : Int) + 1 := QaB (by omega) (by omega)
 have hlast : atL (l.map lgcv) (q.length : Int) = some (lgcv x) := Qa5 (by rw [← h]; simp)
 refine .top rfl ((QtI lb an l q t x h hl).mono fun n hn => ?_)
 rw [QnL, hall, hw, decT (show (0 : Int) ≤ (q.length : Int) + 1 ∧ (q.length : Int) + 1 ≤ ((l.map lgcv).length : Int) by rw [List.length_map]; omega), hn]
 simp only [QaL]
 unfold brk
 rcases QgU q with rfl | ⟨q', y, rfl⟩
 ·rw [decF (by simp), cond_false]
  rfl
 ·have hwl : IntKind.wrap .i64 (((q' ++ [y]).length : Int) - 1) = (q'.length : Int) := by
   rw [List.length_append, List.length_singleton] at hll ⊢
   rw [QaB (by omega) (by omega)]
   omega
  have hpre : atL (l.map lgcv) (q'.length : Int) = some (lgcv y) := Qa5 (by rw [← h]; simp)
  rw [decT (by rw [List.length_append, List.length_singleton]; omega), cond_true, hlast, hwl, hpre]
  simp only [lgcv, QaC, QaH, QaF, Qa0, QaX, Qa4, Qa3, get0, get1, get2, get3, QaL, cond_true, cond_false, List.length_cons, List.length_nil, Nat.zero_add, Nat.reduceAdd, Nat.reduceBEq, beq_self_eq_true, Qaw, Qas, get4, List.getLast?_append, List.getLast?_singleton, Option.some_or]
  cases (x.fro == y.to) <;> rfl
theorem QvF (an : Bool) (l q t : List Lg) (x : Lg) (h : q ++ x :: t = l) (hl : l.length ≤ 1000) : Ret lb Qby [.list an (l.map lgcv), .int .i64 (q.length : Int)] (.bool (brk q x)) := by
 have hll : l.length = q.length + (t.length + 1) := by rw [← h]; simp
 have hlast : atL (l.map lgcv) (q.length : Int) = some (lgcv x) := Qa5 (by rw [← h]; simp)
 have key : Evt fun n => QdR lb n n an (l.map lgcv) (q.length : Int) 0 = some (.bool ((q ++ [x]).any (fun z => z.fro == x.to))) := by
  refine Evt.diag (m := (q ++ [x]).length) (QdA (enc := lgcv) (l := q ++ [x]) (by simp; omega) (P := fun r s n k => QdR lb n k an (l.map lgcv) (q.length : Int) (r.length : Int) = some (.bool (s.any (fun z => z.fro == x.to)))) ?_ ?_ (q ++ [x]) [] rfl)
  ·refine .all fun n k => ?_
   rw [QhZ, decF (by simp; omega), cond_false, QoZ]
   rfl
  ·intro r z s hrs hlt hat hw2 hev
   refine hev.mono fun n hn k hk => ?_
   have hn := hn k hk
   have hlz : l = r ++ z :: (s ++ t) := by
    rw [← h, show q ++ x :: t = (q ++ [x]) ++ t by simp, ← hrs]; simp
   have hat : atL (l.map lgcv) (r.length : Int) = some (lgcv z) := Qa5 (by rw [hlz]; simp)
   rw [QhZ, decT (by simp at hlt; omega), cond_true]
   simp only [hat, hlast, lgcv, QaC, QaH, QaF, Qa0, QaX, Qa4, Qa3, get0, get1, get2, get3, QaL, cond_true, cond_false, List.length_cons, List.length_nil, Nat.zero_add, Nat.reduceAdd, Nat.reduceBEq, beq_self_eq_true, Qaw, Qas, get4, hw2]
   by_cases e : z.fro = x.to
   ·rw [show (z.fro == x.to) = true by simpa using e, cond_true]
    simp [e]
   ·have e' : (z.fro == x.to) = false := by simpa using e
    rw [e', cond_false, hn]
    simp [e']
 refine .top rfl (key.mono fun n hn => ?_)
 rw [Qsy, hn]
 unfold brk
 rcases QgU q with rfl | ⟨q', y, rfl⟩
 ·rw [decF (by simp), cond_false]
  rfl
 ·have hwl : IntKind.wrap .i64 (((q' ++ [y]).length : Int) - 1) = (q'.length : Int) := by
   rw [List.length_append, List.length_singleton] at hll ⊢
   rw [QaB (by omega) (by omega)]
   omega
  have hpre : atL (l.map lgcv) (q'.length : Int) = some (lgcv y) := Qa5 (by rw [← h]; simp)
  rw [decT (by rw [List.length_append, List.length_singleton]; omega), cond_true, hlast, hwl, hpre]
  simp only [lgcv, QaC, QaH, QaF, Qa0, QaX, Qa4, Qa3, get0, get1, get2, get3, QaL, cond_true, cond_false, List.length_cons, List.length_nil, Nat.zero_add, Nat.reduceAdd, Nat.reduceBEq, beq_self_eq_true, Qaw, Qas, get4, List.getLast?_append, List.getLast?_singleton, Option.some_or]
  cases (x.fro == y.to) <;> rfl
def okM (m : Int) : Bool := decide (-1440 ≤ m ∧ m < 5760)
def Qm9 (p : Pc) (s : Bs) : Bool := (Qcm s p.aps).isSome
def legE (p : Pc) (q : List Lg) (x : Lg) : List Int :=
 (((if Qee x.eq 3 3 then [] else [5]) ++ (if Qm9 p x.fro && Qm9 p x.to then [] else [14])) ++ (if !brk q x then [] else [15])) ++ (if okM x.dep && okM x.arr then [] else [2])
theorem QoW (p : Pc) (q : List Lg) (x : Lg) : (legE p q x).length ≤ 4 := by
 unfold legE
 simp only [List.length_append]
 have h : ∀ (c : Bool) (e : Int), (if c then [] else [e] : List Int).length ≤ 1 := fun c e => by cases c <;> simp
 have := h (Qee x.eq 3 3) 5
 have := h (Qm9 p x.fro && Qm9 p x.to) 14
 have := h (!brk q x) 15
 have := h (okM x.dep && okM x.arr) 2
 omega
theorem Qm5 (c : Bool) (e : Int) : (if c then [] else [e] : List Int).length ≤ 1 := by cases c <;> simp
theorem QzF (n : Nat) (ja : Bool) (aair2 : List (List CV)) (jb : Bool) (adis4 : List (List CV)) (jI : Bool) (b6 : List (List CV)) (c7 : Int) (wz wj : CV) (c9 : List CV) (jQ wd wg wA yB yK wJ yG wx wb x23 w4 wI wQ wC yt yA yr yE : CV) (E : List Int) (hE : E.length ≤ 1000) (d a : Bool) (h1 : C lb n QbD [wg] = some (.bool d)) (h2 : C lb n QbD [wA] = some (.bool a)) :
  QeV lb n ja aair2 jb adis4 jI b6 c7 wz wj c9 jQ wd wg wA yB yK wJ yG wx wb x23 w4 wI wQ wC yt yA yr yE E.isEmpty (E.map ienc) = some (.list (E ++ if d && a then [] else [2]).isEmpty ((E ++ if d && a then [] else [2]).map ienc)) := by
 rw [QoP, h1, h2]
 simp only [QaC, QaH, QaF, Qa0, QaX, Qa4, Qa3, get0, get1, get2, get3, QaL, cond_true, cond_false, List.length_cons, List.length_nil, Nat.zero_add, Nat.reduceAdd, Nat.reduceBEq, beq_self_eq_true, Qaw, Qas]
 rw [Qo6]
 exact Qmf (enc := ienc) (d && a) E 2 8 (by decide) (by omega) (fun b l => some (.list b l))
theorem Qzj (n : Nat) (ja : Bool) (aair2 : List (List CV)) (jb : Bool) (adis4 : List (List CV)) (jI : Bool) (b6 : List (List CV)) (c7 : Int) (wz wj : CV) (c9 : List CV) (jQ wd wg wA yB yK wJ yG wx wb x23 w4 wI wQ wC yt yA yr yE : CV) (E : List Int) (hE : E.length ≤ 100) (f d a : Bool) (h0 : C lb n QaS [.list jI b6, .int .i64 c7] = some (.bool f)) (h1 : C lb n QbD [wg] = some (.bool d)) (h2 : C lb n QbD [wA] = some (.bool a)) :
  QeR lb n ja aair2 jb adis4 jI b6 c7 wz wj c9 jQ wd wg wA yB yK wJ yG wx wb x23 w4 wI wQ wC yt yA yr yE E.isEmpty (E.map ienc) = some (.list ((E ++ if f then [] else [15]) ++ if d && a then [] else [2]).isEmpty (((E ++ if f then [] else [15]) ++ if d && a then [] else [2]).map ienc)) := by
 rw [Qo9, h0]
 simp only [QaC, QaH, QaF, Qa0, QaX, Qa4, Qa3, get0, get1, get2, get3, QaL, cond_true, cond_false, List.length_cons, List.length_nil, Nat.zero_add, Nat.reduceAdd, Nat.reduceBEq, beq_self_eq_true, Qaw, Qas]
 refine (Qmf (enc := ienc) f E 15 8 (by decide) (by omega) (QeV lb n ja aair2 jb adis4 jI b6 c7 wz wj c9 jQ wd wg wA yB yK wJ yG wx wb x23 w4 wI wQ wC yt yA yr yE)).trans ?_
 exact QzF lb _ _ _ _ _ _ _ _ _ _ _ _ _ _ _ _ _ _ _ _ _ _ _ _ _ _ _ _ _ _ _ (by rw [List.length_append]; have := Qm5 f 15; omega) d a h1 h2
theorem Qzl (n : Nat) (ja : Bool) (aair2 : List (List CV)) (jb : Bool) (adis4 : List (List CV)) (jI : Bool) (b6 : List (List CV)) (c7 : Int) (wz wj : CV) (c9 : List CV) (jQ wd wg wA yB yK wJ yG wx wb x23 w4 wI wQ wC yt yA yr yE : CV) (E : List Int) (hE : E.length ≤ 10) (u v f d a : Bool) (hu : wz = .bool u) (hv : wj = .bool v) (h0 : C lb n QaS [.list jI b6, .int .i64 c7] = some (.bool f)) (h1 : C lb n QbD [wg] = some (.bool d)) (h2 : C lb n QbD [wA] = some (.bool a)) :
  flight_leg_J1 lb n ja aair2 jb adis4 jI b6 c7 wz wj c9 jQ wd wg wA yB yK wJ yG wx wb x23 w4 wI wQ wC yt yA yr yE E.isEmpty (E.map ienc) = some (.list (((E ++ if u && v then [] else [14]) ++ if f then [] else [15]) ++ if d && a then [] else [2]).isEmpty ((((E ++ if u && v then [] else [14]) ++ if f then [] else [15]) ++ if d && a then [] else [2]).map ienc)) := by
 subst hu; subst hv
 rw [QoX]
 simp only [QaC, QaH, QaF, Qa0, QaX, Qa4, Qa3, get0, get1, get2, get3, QaL, cond_true, cond_false, List.length_cons, List.length_nil, Nat.zero_add, Nat.reduceAdd, Nat.reduceBEq, beq_self_eq_true, Qaw, Qas]
 rw [Qo6]
 refine (Qmf (enc := ienc) (u && v) E 14 8 (by decide) (by omega) _).trans ?_
 exact Qzj lb _ _ _ _ _ _ _ _ _ _ _ _ _ _ _ _ _ _ _ _ _ _ _ _ _ _ _ _ _ _ _ (by rw [List.length_append]; have := Qm5 (u && v) 14; omega) f d a h0 h1 h2
theorem QqL (p : Pc) (hp : Qcg p) (an : Bool) (l q t : List Lg) (x : Lg) (h : q ++ x :: t = l) (hl : l.length ≤ 1000) (hx : x.eq.length ≤ 281474976710656) :
  Ret lb QbQ [pcv p, .list an (l.map lgcv), .int .i64 (q.length : Int)] (.list (legE p q x).isEmpty ((legE p q x).map ienc)) := by
 have hlast : atL (l.map lgcv) (q.length : Int) = some (lgcv x) := Qa5 (by rw [← h]; simp)
 refine .top rfl (Evt.imp2 (Evt.imp2 (Evt.imp2 (Qe9 lb p x.fro hp.1) (Qe9 lb p x.to hp.1) fun n a b => And.intro a b) (Evt.imp2 (QlQ lb x.eq 3 3 (by omega)) (QuQ lb an l q t x h hl) fun n a b => And.intro a b) fun n a b => And.intro a b)
  (Evt.imp2 (QhP lb x.dep) (QhP lb x.arr) fun n a b => And.intro a b) fun n h1 h2 => ?_)
 obtain ⟨⟨a1, a2⟩, a3, a4⟩ := h1
 obtain ⟨a5, a6⟩ := h2
 rw [Qsd, hlast]
 refine stO _ rfl (stC rfl (stO _ rfl (stO _ rfl (stO _ rfl (stO _ rfl (stO _ rfl (stO _ a1 (stO _ rfl (stO _ rfl (stO _ rfl (stO _ rfl (stO _ rfl (stC rfl (stO _ rfl (stO _ rfl (stO _ rfl (stO _ rfl (stO _ rfl
  (stO _ a2 (stO _ rfl (stO _ rfl (stO _ rfl (stO _ rfl (stO _ rfl (stC rfl (stO _ rfl (stO _ rfl (stO _ rfl (stO _ rfl (stO _ rfl (stO _ a3 (stO _ rfl ?_))))))))))))))))))))))))))))))))
 refine (QqO (enc := ienc) (Qee x.eq 3 3) 5 _).trans ?_
 exact Qzl lb _ _ _ _ _ _ _ _ _ _ _ _ _ _ _ _ _ _ _ _ _ _ _ _ _ _ _ _ _ _ _ (by have := Qm5 (Qee x.eq 3 3) 5; omega) _ _ _ _ _ rfl rfl a4 a5 a6
def QfB : Bs := [99, 97, 114, 114, 105, 101, 114]
def QeW : Bs := [110, 117, 109, 98, 101, 114]
def wPeriod : Bs := [112, 101, 114, 105, 111, 100]
def Qnn : Bs := [108, 101, 103, 115]
def wLeg : Bs := [108, 101, 103, 32]
def wDay : Bs := [100, 97, 121, 32]
def Qc5 (f : Fl) : List Ft := ((if Qds f.car then [] else [(5, QfB)]) ++ (if !(decide (f.num < 1) || decide (f.num > 9999)) then [] else [(2, QeW)])) ++ (if perE f.fr f.to f.days != 0 then [(perE f.fr f.to f.days, wPeriod)] else [])
def QfM (f : Fl) : List Ft := Qc5 f ++ (if decide ((f.legs.length : Int) < 1) || decide ((f.legs.length : Int) > 6) then [(4, Qnn)] else [])
def QaZ (p : Pc) : List Lg → List Lg → List Ft
 | _, [] => []
 | q, x :: t => (legE p q x).map (fun e => (e, wLeg ++ Lib.itoa (q.length : Int))) ++ QaZ p (q ++ [x]) t
def Qcn (p : Pc) (l : List Lg) : List Int → List Ft
 | [] => []
 | d :: r => if ordF p l d then Qcn p l r else [(13, wDay ++ Qnu d)]
def Qaz (p : Pc) (f : Fl) : List Ft :=
 if f.legs.length < 1 ∨ f.legs.length > 6 then QfM f else
 if Qc5 f ++ QaZ p [] f.legs = [] then Qcn p f.legs (Qar f.fr f.to f.days) else Qc5 f ++ QaZ p [] f.legs
theorem QjB (f : Fl) : (Qc5 f).length ≤ 3 := by
 have h : ∀ (c : Bool) (e : Ft), (if c then [] else [e] : List Ft).length ≤ 1 := fun c e => by cases c <;> simp
 have h' : ∀ (c : Bool) (e : Ft), (if c then [e] else [] : List Ft).length ≤ 1 := fun c e => by cases c <;> simp
 unfold Qc5
 rw [List.length_append, List.length_append]
 have := h (Qds f.car) (5, QfB)
 have := h (!(decide (f.num < 1) || decide (f.num > 9999))) (2, QeW)
 have := h' (perE f.fr f.to f.days != 0) (perE f.fr f.to f.days, wPeriod)
 omega
theorem QtJ (f : Fl) (hc : f.car.length ≤ 281474976710656) : Ret lb QcN [flcv f] (.list (QfM f).isEmpty ((QfM f).map Qa7)) := by
 have h1' : ∀ (c : Bool) (e : Ft), (if c then [] else [e] : List Ft).length ≤ 1 := fun c e => by cases c <;> simp
 refine .top rfl (Evt.imp2 (Qpb lb f.car (by omega)) (QeN lb f.fr f.to f.days) fun n a1 a2 => ?_)
 rw [Qup, a1]
 simp only [QaC, QaH, QaF, Qa0, QaX, Qa4, Qa3, get0, get1, get2, get3, QaL, cond_true, cond_false, List.length_cons, List.length_nil, Nat.zero_add, Nat.reduceAdd, Nat.reduceBEq, beq_self_eq_true, Qaw, Qas]
 refine (QqO (enc := Qa7) (Qds f.car) (5, QfB) _).trans ?_
 rw [QqZ, QkT]
 refine (QdT (enc := Qa7) _ _ (2, QeW) 24 (by decide) (by have := h1' (Qds f.car) (5, QfB); omega) _).trans ?_
 rw [Qqy, a2]
 simp only [QaC, QaH, QaF, Qa0, QaX, Qa4, Qa3, get0, get1, get2, get3, QaL, cond_true, cond_false, List.length_cons, List.length_nil, Nat.zero_add, Nat.reduceAdd, Nat.reduceBEq, beq_self_eq_true, Qaw, Qas]
 have e2 : (if decide (f.num < 1) || decide (f.num > 9999) then [(2, QeW)] else []) = (if !(decide (f.num < 1) || decide (f.num > 9999)) then [] else [((2, QeW) : Ft)]) := by
  cases (decide (f.num < 1) || decide (f.num > 9999)) <;> rfl
 rw [e2]
 refine (QdT (enc := Qa7) _ _ (perE f.fr f.to f.days, wPeriod) 24 (by decide) (by
  have := h1' (Qds f.car) (5, QfB)
  have := h1' (!(decide (f.num < 1) || decide (f.num > 9999))) (2, QeW)
  rw [List.length_append]; omega) _).trans ?_
 rw [QqH, QkT, List.length_map]
 exact (QdT (enc := Qa7) _ _ (4, Qnn) 24 (by decide) (by have := QjB f; unfold Qc5 at this; omega) (fun b l => some (.list b l)))
end Go.Proofs
set_option linter.unusedSimpArgs false
namespace Go.Proofs
open Go.Am
variable (lb : Nat)
theorem QzJ (c : Bool) (e : Ft) : (if c then [e] else [] : List Ft).length ≤ 1 := by cases c <;> simp
theorem QmK (c : Bool) (e : Ft) : (if c then [] else [e] : List Ft).length ≤ 1 := by cases c <;> simp
def QbW (F : List Ft) : CV := .list F.isEmpty (F.map Qa7)
theorem Qql (p : Pc) : ∀ (a r t : List Lg), QaZ p r (a ++ t) = QaZ p r a ++ QaZ p (r ++ a) t
 | [], r, t => by simp [QaZ]
 | x :: a, r, t => by
  simp only [List.cons_append, QaZ, Qql p a (r ++ [x]) t, List.append_assoc, List.nil_append]
theorem QiB (p : Pc) : ∀ (t r : List Lg), (QaZ p r t).length ≤ 4 * t.length
 | [], r => by simp [QaZ]
 | x :: t, r => by
  have := QiB p t (r ++ [x])
  have := QoW p r x
  simp only [QaZ, List.length_append, List.length_map, List.length_cons]
  omega
theorem Qn4 (p : Pc) (q : List Lg) (x : Lg) : QaZ p [] (q ++ [x]) = QaZ p [] q ++ (legE p q x).map (fun e => (e, wLeg ++ Lib.itoa (q.length : Int))) := by
 rw [Qql]
 simp [QaZ]
theorem QoR {fr days d : Int} : ∀ {k : Nat}, d ∈ upto fr days k → fr ≤ d ∧ d < fr + k
 | 0, h => by cases h
 | k + 1, h => by
  simp only [upto, List.mem_append] at h
  rcases h with h | h
  ·have := QoR h; omega
  ·split at h
   ·have : d = fr + k := by simpa using h
    omega
   ·cases h
theorem QdD {fr to days d : Int} (h : d ∈ Qar fr to days) : 0 ≤ d ∧ d < 36525 ∧ hasF fr to days d = true := by
 unfold Qar at h
 split at h
 ·rename_i h0
  obtain ⟨a0, a1, a2, a3, a4, a5⟩ := Qc8 h0
  have hm := QoR h
  refine ⟨by omega, by omega, ?_⟩
  have on : ∀ {k : Nat}, d ∈ upto fr days k → onF days d = true := by
   intro k
   induction k with
   | zero => intro h; cases h
   | succ k ih =>
    intro h
    simp only [upto, List.mem_append] at h
    rcases h with h | h
    ·exact ih h
    ·split at h
     ·have : d = fr + k := by simpa using h
      rw [this]; assumption
     ·cases h
  unfold hasF
  rw [decT h0, decT (by omega), decT (by omega), on h]
  rfl
 ·cases h
theorem QjW (fr to days : Int) : (Qar fr to days).length ≤ 800 := by
 unfold Qar
 split
 ·rename_i h0
  obtain ⟨a0, a1, a2, a3, a4, a5⟩ := Qc8 h0
  have := Qq5 fr days (to + 1 - fr).toNat
  omega
 ·simp
theorem QwI (p : Pc) (f : Fl) (d : Int) : ordG true 0 ((QjO p f d).map fun x => (x.dep, x.arr)) = ordF p f.legs d := by
 unfold ordF QjO
 rw [List.map_map]
 rfl
theorem Qz6 (n yd : Nat) (ja : Bool) (aair2 : List (List CV)) (jb : Bool) (adis4 : List (List CV)) (bcar5 : List UInt8) (jg jd jf jc : Int) (je : Bool) (bleg12 : List (List CV)) (wN : Int) (s370 : List UInt8) (va y9 : CV) (wB : Bool × List (List CV)) (c363 : List CV) (yn yl yk ym yu yF y0 vg yZ vf vr vj vw vu vi vq vt vk vn vo : CV) (F : List Ft) (hF : F.length ≤ 1000) (d a : Bool) (h1 : C lb n QdG [yk] = some (.bool d)) (h2 : C lb n QdG [ym] = some (.bool a)) :
  Qg1 lb n yd ja aair2 jb adis4 bcar5 jg jd jf jc je bleg12 wN s370 va y9 wB c363 yn yl yk ym yu yF y0 vg yZ vf vr vj vw vu vi vq vt vk vn vo F.isEmpty (F.map Qa7) = Qb1 lb n yd ja aair2 jb adis4 bcar5 jg jd jf jc je bleg12 wB (F ++ if d || a then [(2, wLeg ++ s370)] else []).isEmpty ((F ++ if d || a then [(2, wLeg ++ s370)] else []).map Qa7) (IntKind.wrap .i64 (wN + 1)) := by
 rw [Qpo, h1, h2]
 simp only [QaC, QaH, QaF, Qa0, QaX, Qa4, Qa3, get0, get1, get2, get3, QaL, cond_true, cond_false, List.length_cons, List.length_nil, Nat.zero_add, Nat.reduceAdd, Nat.reduceBEq, beq_self_eq_true, Qaw, Qas]
 rw [QkT]
 exact QdT (enc := Qa7) (d || a) F (2, wLeg ++ s370) 24 (by decide) (by omega) (fun b l => Qb1 lb n yd ja aair2 jb adis4 bcar5 jg jd jf jc je bleg12 wB b l (IntKind.wrap .i64 (wN + 1)))
theorem QzY (n yd : Nat) (ja : Bool) (aair2 : List (List CV)) (jb : Bool) (adis4 : List (List CV)) (bcar5 : List UInt8) (jg jd jf jc : Int) (je : Bool) (bleg12 : List (List CV)) (wN : Int) (s370 : List UInt8) (va y9 : CV) (wB : Bool × List (List CV)) (c363 : List CV) (yn yl yk ym yu yF y0 vg yZ vf vr vj vw vu vi vq vt vk vn vo : CV) (F : List Ft) (hF : F.length ≤ 900) (b d a : Bool) (h0 : C lb n Qby [.list je bleg12, .int .i64 wN] = some (.bool b)) (h1 : C lb n QdG [yk] = some (.bool d)) (h2 : C lb n QdG [ym] = some (.bool a)) :
  Qfy lb n yd ja aair2 jb adis4 bcar5 jg jd jf jc je bleg12 wN s370 va y9 wB c363 yn yl yk ym yu yF y0 vg yZ vf vr vj vw vu vi vq vt vk vn vo F.isEmpty (F.map Qa7) = Qb1 lb n yd ja aair2 jb adis4 bcar5 jg jd jf jc je bleg12 wB ((F ++ if b then [(15, wLeg ++ s370)] else []) ++ if d || a then [(2, wLeg ++ s370)] else []).isEmpty
   (((F ++ if b then [(15, wLeg ++ s370)] else []) ++ if d || a then [(2, wLeg ++ s370)] else []).map Qa7) (IntKind.wrap .i64 (wN + 1)) := by
 rw [Qpz, h0]
 simp only [QaC, QaH, QaF, Qa0, QaX, Qa4, Qa3, get0, get1, get2, get3, QaL, cond_true, cond_false, List.length_cons, List.length_nil, Nat.zero_add, Nat.reduceAdd, Nat.reduceBEq, beq_self_eq_true, Qaw, Qas]
 refine (QdT (enc := Qa7) b F (15, wLeg ++ s370) 24 (by decide) (by omega) _).trans ?_
 have hl : (F ++ if b then [(15, wLeg ++ s370)] else []).length ≤ 1000 := by rw [List.length_append]; have := QzJ b (15, wLeg ++ s370); omega
 generalize (F ++ if b then [(15, wLeg ++ s370)] else []) = F1 at hl
 apply Qz6
 ·exact hl
 ·exact h1
 ·exact h2
theorem QzQ (n yd : Nat) (ja : Bool) (aair2 : List (List CV)) (jb : Bool) (adis4 : List (List CV)) (bcar5 : List UInt8) (jg jd jf jc : Int) (je : Bool) (bleg12 : List (List CV)) (wN : Int) (s370 : List UInt8) (wB : Bool × List (List CV)) (c363 : List CV) (yn yl yk ym yu yF : CV) (F : List Ft) (hF : F.length ≤ 800) (sa sb : Bs) (aps : List Ap) (b d a : Bool)
  (h3 : C lb n QbF [.agg [.list ja aair2, .list jb adis4], yn] = some (QgB sa aps)) (h4 : C lb n QbF [.agg [.list ja aair2, .list jb adis4], yl] = some (QgB sb aps))
  (h0 : C lb n Qby [.list je bleg12, .int .i64 wN] = some (.bool b)) (h1 : C lb n QdG [yk] = some (.bool d)) (h2 : C lb n QdG [ym] = some (.bool a)) :
  QgF lb n yd ja aair2 jb adis4 bcar5 jg jd jf jc je bleg12 wN s370 wB c363 yn yl yk ym yu yF F.isEmpty (F.map Qa7) = Qb1 lb n yd ja aair2 jb adis4 bcar5 jg jd jf jc je bleg12 wB
   (((F ++ if (Qcm sa aps).isSome && (Qcm sb aps).isSome then [] else [(14, wLeg ++ s370)]) ++ if b then [(15, wLeg ++ s370)] else []) ++ if d || a then [(2, wLeg ++ s370)] else []).isEmpty
   ((((F ++ if (Qcm sa aps).isSome && (Qcm sb aps).isSome then [] else [(14, wLeg ++ s370)]) ++ if b then [(15, wLeg ++ s370)] else []) ++ if d || a then [(2, wLeg ++ s370)] else []).map Qa7) (IntKind.wrap .i64 (wN + 1)) := by
 rw [QpF]
 refine stO _ h3 (stO _ rfl (stO _ rfl (stO _ rfl (stO _ rfl (stO _ rfl (stC rfl (stO _ rfl (stO _ rfl (stO _ rfl (stO _ rfl (stO _ rfl (stO _ h4 (stO _ rfl (stO _ rfl (stO _ rfl (stO _ rfl (stO _ rfl (stC rfl (stO _ rfl (stO _ rfl (stO _ rfl (stO _ rfl (stO _ rfl (stO _ rfl ?_))))))))))))))))))))))))
 refine (Qo6 _ _ _ _).trans ?_
 refine (Qmf (enc := Qa7) ((Qcm sa aps).isSome && (Qcm sb aps).isSome) F (14, wLeg ++ s370) 24 (by decide) (by omega) _).trans ?_
 have hl : (F ++ if (Qcm sa aps).isSome && (Qcm sb aps).isSome then [] else [(14, wLeg ++ s370)]).length ≤ 900 := by rw [List.length_append]; have := QmK ((Qcm sa aps).isSome && (Qcm sb aps).isSome) (14, wLeg ++ s370); omega
 generalize (F ++ if (Qcm sa aps).isSome && (Qcm sb aps).isSome then [] else [(14, wLeg ++ s370)]) = F1 at hl
 apply QzY
 ·exact hl
 ·exact h0
 ·exact h1
 ·exact h2
theorem QxP (p : Pc) (q : List Lg) (x : Lg) (s : Bs) : (legE p q x).map (fun e => (e, s)) =
  (((if Qee x.eq 3 3 then [] else [(5, s)]) ++ (if (Qcm x.fro p.aps).isSome && (Qcm x.to p.aps).isSome then [] else [(14, s)])) ++ (if brk q x then [(15, s)] else [])) ++ (if !okM x.dep || !okM x.arr then [((2, s) : Ft)] else []) := by
 unfold legE Qm9
 cases Qee x.eq 3 3 <;> cases (Qcm x.fro p.aps).isSome && (Qcm x.to p.aps).isSome <;> cases brk q x <;> cases okM x.dep <;> cases okM x.arr <;> rfl
theorem Qy6 (d : Int) (f : Fl) (p : Pc) (hp : Qcg p) (hl : f.legs.length ≤ 1000) (h : 0 ≤ d ∧ d < 36525) : Evt fun n => (C lb n Qca [pcv p, flcv f, .int .i64 d] = some (.list f.legs.isEmpty ((QjO p f d).map dtcv)) ∧
  C lb n Qbv [.list f.legs.isEmpty ((QjO p f d).map dtcv)] = some (.bool (ordF p f.legs d))) ∧ C lb n QhI [.int .i64 d] = some (.str (Qnu d)) := by
 refine Evt.and (Evt.and (Qs1 lb p hp f hl d) ?_) (Qsn lb d h.1 h.2)
 have := QpG lb f.legs.isEmpty (QjO p f d) (by unfold QjO; rw [List.length_map]; exact hl)
 rw [QwI] at this
 exact this
theorem Qm3 (d : Int) : (Qnu d).length = 10 := rfl
theorem QyT (p : Pc) (hp : Qcg p) (f : Fl) (hl : f.legs.length ≤ 1000) (ve : Int) (wB : Bool × List (List CV)) (b0 : Bool) (D : List Int) (hD : D.length ≤ 800) (hd : ∀ d ∈ D, 0 ≤ d ∧ d < 36525) :
  Evt fun n => QdO lb n n p.an (p.aps.map apcv) p.dn (p.dis.map dicv) f.car f.num f.fr f.to f.days f.ln (f.legs.map lgcv) ve (.list b0 (dcv D)) wB true [] 0 = some (QbW (Qcn p f.legs D)) := by
 refine Evt.diag (m := D.length) (QdA (enc := ienc) (l := D) (by omega) (P := fun q t n k => QdO lb n k p.an (p.aps.map apcv) p.dn (p.dis.map dicv) f.car f.num f.fr f.to f.days f.ln (f.legs.map lgcv) ve (.list b0 (dcv D)) wB true [] (q.length : Int) = some (QbW (Qcn p f.legs t))) ?_ ?_ D [] rfl)
 ·refine .all fun n k => ?_
  rw [Qeb]
  refine stT rfl (stO _ rfl (stF (decF (by simp [dcv])) ?_))
  rw [QgM]
  rfl
 ·intro q d t hq hlt hat hw hev
  refine Evt.imp2 hev (Qy6 lb d f p hp hl (hd d (by rw [← hq]; simp))) fun n hn hc k hk => ?_
  have hn := hn k hk
  obtain ⟨⟨c1, c2⟩, c3⟩ := hc
  have hat : atL (dcv D) (q.length : Int) = some [.int .i64 d] := hat
  have hlt : (q.length : Int) < ((dcv D).length : Int) := hlt
  rw [Qeb]
  refine stT rfl (stO _ rfl (stT (decT hlt) (stO _ rfl (stO _ hat (stC rfl (stO _ rfl (stO _ c1 (stO _ c2 (stO _ rfl ?_)))))))))
  unfold Qcn
  cases ho : ordF p f.legs d with
  | true =>
   rw [hw]
   exact hn
  | false =>
   refine stT rfl (stO _ rfl (stO _ hat (stC rfl (stO _ rfl (stO _ c3 (stO _ rfl (stC (decT (by rw [Qm3]; decide)) (stC rfl ?_))))))))
   obtain ⟨k, rfl⟩ : ∃ m, k = m + 1 := ⟨k - 1, by omega⟩
   rw [Qeb]
   refine stF rfl ?_
   rw [QgM]
   rfl
theorem QyR (p : Pc) (hp : Qcg p) (f : Fl) (hl : f.legs.length ≤ 6) (hx : ∀ x ∈ f.legs, x.eq.length ≤ 281474976710656) (wB : Bool × List (List CV)) (H : List Ft) (hH : H.length ≤ 10) :
  Evt fun n => Qb1 lb n n p.an (p.aps.map apcv) p.dn (p.dis.map dicv) f.car f.num f.fr f.to f.days f.ln (f.legs.map lgcv) wB H.isEmpty (H.map Qa7) 0 = some (QbW (if H ++ QaZ p [] f.legs = [] then Qcn p f.legs (Qar f.fr f.to f.days) else H ++ QaZ p [] f.legs)) := by
 have key := QdA (enc := lgcv) (l := f.legs) (by omega) (P := fun q t n k => Qb1 lb n k p.an (p.aps.map apcv) p.dn (p.dis.map dicv) f.car f.num f.fr f.to f.days f.ln (f.legs.map lgcv) wB (H ++ QaZ p [] q).isEmpty ((H ++ QaZ p [] q).map Qa7) (q.length : Int) =
   some (QbW (if H ++ QaZ p [] f.legs = [] then Qcn p f.legs (Qar f.fr f.to f.days) else H ++ QaZ p [] f.legs))) (by
  refine Evt.imp2 (Evt.and (Qmp lb f.fr f.to f.days) (Evt.ge 1)) (QyT lb p hp f (by omega) (f.legs.length : Int) wB (Qar f.fr f.to f.days).isEmpty (Qar f.fr f.to f.days) (QjW _ _ _) fun d hd => ⟨(QdD hd).1, (QdD hd).2.1⟩) fun n h1 h2 k => ?_
  rw [Qif]
  refine stF (decF (by simp)) ?_
  rw [Qqd]
  refine stO _ h1.1 ?_
  generalize H ++ QaZ p [] f.legs = F
  cases F with
  | nil =>
   rw [if_pos rfl]
   exact h2
  | cons e F =>
   rw [if_neg (by simp)]
   obtain ⟨m, hm⟩ : ∃ m, n = m + 1 := ⟨n - 1, by omega⟩
   have : ∀ k', k' = n → QdO lb n k' p.an (p.aps.map apcv) p.dn (p.dis.map dicv) f.car f.num f.fr f.to f.days f.ln (f.legs.map lgcv) (f.legs.length : Int) (.list (Qar f.fr f.to f.days).isEmpty (dcv (Qar f.fr f.to f.days))) wB (e :: F).isEmpty ((e :: F).map Qa7) 0 = some (QbW (e :: F)) := by
    intro k' ek
    rw [show k' = m + 1 by omega, Qeb]
    refine stF (beqF (by simp; omega)) ?_
    rw [QgM]
    rfl
   exact this n rfl) (by
  intro q x t hq hlt hat hw hev
  have hll : f.legs.length = q.length + (t.length + 1) := by rw [← hq]; simp
  have hil := QeB (z := (q.length : Int)) (by omega) (by omega)
  have hF : (H ++ QaZ p [] q).length ≤ 100 := by rw [List.length_append]; have := QiB p q []; omega
  refine Evt.imp2 hev (Evt.imp2 (Evt.imp2 (Evt.imp2 (Qja lb p x.fro hp.1) (Qja lb p x.to hp.1) fun n a b => And.intro a b) (Evt.imp2 (Qmr lb x.eq 3 3 (by have := hx x (by rw [← hq]; simp); omega)) (QvF lb f.ln f.legs q t x hq (by omega)) fun n a b => And.intro a b) fun n a b => And.intro a b)
   (Evt.imp2 (Evt.imp2 (QoE lb x.dep) (QoE lb x.arr) fun n a b => And.intro a b) (Qfe lb (q.length : Int) (by omega) (by omega)) fun n a b => And.intro a b) fun n a b => And.intro a b) fun n hn hc k hk => ?_
  obtain ⟨⟨⟨a1, a2⟩, a3, a4⟩, ⟨a5, a6⟩, a7⟩ := hc
  have hn := hn k hk
  rw [Qif]
  refine stT (decT hlt) (stO _ hat (stC rfl (stO _ rfl (stO _ rfl (stO _ rfl (stO _ rfl (stO _ rfl (stO _ a7 (stO _ rfl (stC (decT (by simp; omega)) (stO _ a3 (stO _ rfl ?_))))))))))))
  refine (Qmf (enc := Qa7) (Qee x.eq 3 3) (H ++ QaZ p [] q) (5, wLeg ++ Lib.itoa (q.length : Int)) 24 (by decide) (by omega) _).trans ?_
  refine (QzQ lb (hF := by rw [List.length_append]; have := QmK (Qee x.eq 3 3) (5, wLeg ++ Lib.itoa (q.length : Int)); omega) (h3 := a1) (h4 := a2) (h0 := a4) (h1 := a5) (h2 := a6) ..).trans ?_
  rw [Qn4, ← List.append_assoc, QxP, ← hw] at hn
  simp only [List.append_assoc] at hn ⊢
  exact hn) f.legs [] rfl
 refine (Evt.diag key).mono fun n hn => ?_
 simpa [QaZ] using hn
theorem Qxi (f : Fl) (h : ¬ (f.legs.length < 1 ∨ f.legs.length > 6)) : QfM f = Qc5 f := by
 unfold QfM
 rw [decF (by omega), decF (by omega)]
 simp
theorem Qsg (p : Pc) (hp : Qcg p) (f : Fl) (hc : f.car.length ≤ 281474976710656) (hx : ∀ x ∈ f.legs, x.eq.length ≤ 281474976710656) : Ret lb Qam [pcv p, flcv f] (QbW (Qaz p f)) := by
 refine .top rfl (.eq (fun n => by rw [QsM]) ?_)
 refine .call (QtJ lb f hc) ?_
 simp only [QaX, QaC, List.length_map]
 unfold Qaz
 by_cases h : f.legs.length < 1 ∨ f.legs.length > 6
 ·rw [if_pos h]
  refine .all fun n => ?_
  refine (QkT _ _ _ _).trans (stT (by rw [Bool.or_eq_true, decide_eq_true_eq, decide_eq_true_eq]; omega) rfl)
 ·rw [if_neg h]
  refine (QyR lb p hp f (by omega) hx ((QfM f).isEmpty, (QfM f).map Qa7) (Qc5 f) (by have := QjB f; omega)).mono fun n hn => ?_
  refine stF (decF (by omega)) (stF (decF (by omega)) ?_)
  rw [Qxi f h] at hn ⊢
  exact hn
end Go.Proofs
set_option linter.unusedSimpArgs false
namespace Go.Proofs
open Go.Am
variable (lb : Nat)
theorem QsL (p : Pc) (f : Fl) (wT : CV) (i : Nat) (hi : i ≤ 100) (E : List Int) (hE : E.length ≤ 1000) (F : List Ft) (hF : F.length ≤ 10000) (r : CV) :
  ∀ u q, q ++ u = E → Evt fun n => ∀ j k, u.length < j →
   Qdl lb n k p.an (p.aps.map apcv) p.dn (p.dis.map dicv) f.car f.num f.fr f.to f.days f.ln (f.legs.map lgcv) wT (IntKind.wrap .i64 ((i : Int) + 1)) (F ++ E.map fun e => (e, wLeg ++ Lib.itoa (i : Int))).isEmpty ((F ++ E.map fun e => (e, wLeg ++ Lib.itoa (i : Int))).map Qa7) = some r →
   Qe8 lb n j k p.an (p.aps.map apcv) p.dn (p.dis.map dicv) f.car f.num f.fr f.to f.days f.ln (f.legs.map lgcv) wT (i : Int) (.list E.isEmpty (E.map ienc)) (E.isEmpty, E.map ienc) (q.length : Int) (F ++ q.map fun e => (e, wLeg ++ Lib.itoa (i : Int))).isEmpty ((F ++ q.map fun e => (e, wLeg ++ Lib.itoa (i : Int))).map Qa7) = some r
 | [], q, h => .all fun n j k hj hr => by
  obtain ⟨j, rfl⟩ : ∃ m, j = m + 1 := ⟨j - 1, by simp at hj; omega⟩
  have h : q = E := by simpa using h
  subst h
  rw [QgX]
  refine stF (decF (by simp)) ?_
  rw [Qmg]
  exact hr
 | e :: u, q, h => by
  have hq : E.length = q.length + (u.length + 1) := by rw [← h]; simp
  have hat : atL (E.map ienc) (q.length : Int) = some (ienc e) := Qa5 (by rw [← h]; simp)
  have hil := QeB (z := (i : Int)) (by omega) (by omega)
  refine (Evt.imp2 (QsL p f wT i hi E hE F hF r u (q ++ [e]) (by rw [← h]; simp)) (QoH lb (i : Int) (by omega) (by omega)) fun n h1 h2 => ?_)
  intro j k hj hr
  obtain ⟨j, rfl⟩ : ∃ m, j = m + 1 := ⟨j - 1, by simp at hj; omega⟩
  have h1 := h1 j k (by simp at hj; omega) hr
  rw [QgX]
  refine stT (decT (by simp; omega)) (stO _ rfl (stO _ hat (stC rfl (stO _ rfl (stO _ h2 (stO _ rfl (stC (decT (by simp; omega)) (stC rfl (stC (Qce (by simp; omega) (by omega)) ?_)))))))))
  rw [QaB (by omega) (by omega), show (q.length : Int) + 1 = ((q ++ [e]).length : Int) by simp, QcS (F ++ q.map fun e => (e, wLeg ++ Lib.itoa (i : Int))) (e, wLeg ++ Lib.itoa (i : Int))]
  simpa [List.map_append, List.append_assoc, Qa7, wLeg] using h1
theorem Qzq (d : Int) (f : Fl) (p : Pc) (hp : Qcg p) (hl : f.legs.length ≤ 1000) (h : 0 ≤ d ∧ d < 36525) : Evt fun n => C lb n Qbc [pcv p, .list f.ln (f.legs.map lgcv), .int .i64 d] = some (.bool (ordF p f.legs d)) ∧ C lb n QeL [.int .i64 d] = some (.str (Qnu d)) :=
 Evt.and (Qma lb p hp f.ln f.legs hl d) (QmR lb d h.1 h.2)
theorem Qy5 (p : Pc) (hp : Qcg p) (f : Fl) (hl : f.legs.length ≤ 1000) (wT : CV) (b0 : Bool) (D : List Int) (hD : D.length ≤ 800) (hd : ∀ d ∈ D, 0 ≤ d ∧ d < 36525) :
  Evt fun n => Qd3 lb n n p.an (p.aps.map apcv) p.dn (p.dis.map dicv) f.car f.num f.fr f.to f.days f.ln (f.legs.map lgcv) wT (.list b0 (dcv D)) (b0, dcv D) true [] 0 = some (QbW (Qcn p f.legs D)) := by
 refine Evt.diag (m := D.length) (QdA (enc := ienc) (l := D) (by omega) (P := fun q t n k => Qd3 lb n k p.an (p.aps.map apcv) p.dn (p.dis.map dicv) f.car f.num f.fr f.to f.days f.ln (f.legs.map lgcv) wT (.list b0 (dcv D)) (b0, dcv D) true [] (q.length : Int) = some (QbW (Qcn p f.legs t))) ?_ ?_ D [] rfl)
 ·refine .all fun n k => ?_
  rw [QgI]
  refine stF (decF (by simp [dcv])) ?_
  rw [QlY]
  rfl
 ·intro q d t hq hlt hat hw hev
  refine Evt.imp2 hev (Qzq lb d f p hp hl (hd d (by rw [← hq]; simp))) fun n hn hc k hk => ?_
  have hn := hn k hk
  obtain ⟨c1, c2⟩ := hc
  have hat : atL (dcv D) (q.length : Int) = some [.int .i64 d] := hat
  have hlt : (q.length : Int) < ((dcv D).length : Int) := hlt
  rw [QgI]
  refine stT (decT hlt) (stO _ rfl (stO _ hat (stC rfl (stO _ rfl (stO _ c1 (stO _ rfl ?_))))))
  unfold Qcn
  cases ho : ordF p f.legs d with
  | true =>
   rw [hw]
   exact hn
  | false =>
   refine stT rfl (stO _ c2 (stO _ rfl (stC (decT (by rw [Qm3]; decide)) (stC rfl ?_))))
   rw [QmL]
   rfl
theorem QyQ (p : Pc) (hp : Qcg p) (f : Fl) (hl : f.legs.length ≤ 6) (hx : ∀ x ∈ f.legs, x.eq.length ≤ 281474976710656) (wT : CV) (H : List Ft) (hH : H.length ≤ 10) :
  Evt fun n => Qdl lb n n p.an (p.aps.map apcv) p.dn (p.dis.map dicv) f.car f.num f.fr f.to f.days f.ln (f.legs.map lgcv) wT 0 H.isEmpty (H.map Qa7) = some (QbW (if H ++ QaZ p [] f.legs = [] then Qcn p f.legs (Qar f.fr f.to f.days) else H ++ QaZ p [] f.legs)) := by
 have key := QdA (enc := lgcv) (l := f.legs) (by omega) (P := fun q t n k => Qdl lb n k p.an (p.aps.map apcv) p.dn (p.dis.map dicv) f.car f.num f.fr f.to f.days f.ln (f.legs.map lgcv) wT (q.length : Int) (H ++ QaZ p [] q).isEmpty ((H ++ QaZ p [] q).map Qa7) =
   some (QbW (if H ++ QaZ p [] f.legs = [] then Qcn p f.legs (Qar f.fr f.to f.days) else H ++ QaZ p [] f.legs))) (by
  refine Evt.imp2 (QpU lb f.fr f.to f.days) (Qy5 lb p hp f (by omega) wT (Qar f.fr f.to f.days).isEmpty (Qar f.fr f.to f.days) (QjW _ _ _) fun d hd => ⟨(QdD hd).1, (QdD hd).2.1⟩) fun n h1 h2 k => ?_
  rw [QgA]
  refine stF (decF (by simp)) ?_
  rw [QmW]
  generalize H ++ QaZ p [] f.legs = F
  cases F with
  | nil =>
   rw [if_pos rfl]
   exact stF rfl (stO _ h1 (stO _ rfl h2))
  | cons e F =>
   rw [if_neg (by simp)]
   exact stT (decT (by simp)) rfl) (by
  intro q x t hq hlt hat hw hev
  have hll : f.legs.length = q.length + (t.length + 1) := by rw [← hq]; simp
  have hF : (H ++ QaZ p [] q).length ≤ 100 := by rw [List.length_append]; have := QiB p q []; omega
  have inner := QsL lb p f wT q.length (by omega) (legE p q x) (by have := QoW p q x; omega) (H ++ QaZ p [] q) (by omega) (QbW (if H ++ QaZ p [] f.legs = [] then Qcn p f.legs (Qar f.fr f.to f.days) else H ++ QaZ p [] f.legs)) (legE p q x) [] rfl
  refine Evt.imp2 hev (Evt.imp2 (inner.and (Evt.ge 5)) (QqL lb p hp f.ln f.legs q t x hq (by omega) (hx x (by rw [← hq]; simp))) fun n a b => And.intro a b) fun n hn hc k hk => ?_
  obtain ⟨⟨a1, a2⟩, a3⟩ := hc
  have hn := hn k hk
  have hlE := QoW p q x
  rw [QgA]
  refine stT (decT hlt) (stO _ a3 (stO _ rfl ?_))
  rw [Qn4, ← List.append_assoc] at hn
  have a1 := a1 n k (by omega) (by rw [hw]; exact hn)
  simpa using a1) f.legs [] rfl
 refine (Evt.diag key).mono fun n hn => ?_
 simpa [QaZ] using hn
theorem Qz2 (p : Pc) (hp : Qcg p) (f : Fl) (hx : ∀ x ∈ f.legs, x.eq.length ≤ 281474976710656) (wT : CV) :
  Evt fun n => Qfc lb n p.an (p.aps.map apcv) p.dn (p.dis.map dicv) f.car f.num f.fr f.to f.days f.ln (f.legs.map lgcv) wT (Qc5 f).isEmpty ((Qc5 f).map Qa7) = some (QbW (Qaz p f)) := by
 have hg := QjB f
 unfold Qaz
 by_cases h : f.legs.length < 1 ∨ f.legs.length > 6
 ·rw [if_pos h]
  refine .all fun n => ?_
  rw [QhY]
  have e : QfM f = Qc5 f ++ [(4, Qnn)] := by
   unfold QfM
   rw [if_pos (by rw [Bool.or_eq_true, decide_eq_true_eq, decide_eq_true_eq]; omega)]
  rw [e]
  refine (QkT _ _ _ _).trans (stT (by rw [Bool.or_eq_true, beq_iff_eq, decide_eq_true_eq, List.length_map]; omega) (stC (Qce (by simp; omega) (by omega)) ?_))
  rw [QcS (Qc5 f) (4, Qnn)]
  simp [QbW, Qa7, Qnn]
 ·rw [if_neg h]
  refine (QyQ lb p hp f (by omega) hx wT (Qc5 f) (by omega)).mono fun n hn => ?_
  rw [QhY]
  refine stF (beqF (by rw [List.length_map]; omega)) (stF (decF (by rw [List.length_map]; omega)) ?_)
  exact hn
theorem Qi1 (p : Pc) (hp : Qcg p) (f : Fl) (hc : f.car.length ≤ 281474976710656) (hx : ∀ x ∈ f.legs, x.eq.length ≤ 281474976710656) : Ret lb Qah [pcv p, flcv f] (QbW (Qaz p f)) := by
 refine .top rfl (Evt.imp2 (Evt.imp2 (Qo2 lb f.car (by omega)) (QbO lb f.fr f.to f.days) fun n a b => And.intro a b) (Qz2 lb p hp f hx (.int .i64 (perE f.fr f.to f.days))) fun n hc h3 => ?_)
 obtain ⟨a1, a2⟩ := hc
 rw [Qpg]
 refine stO _ a1 (stO _ rfl ?_)
 refine (QqO (enc := Qa7) (Qds f.car) (5, QfB) _).trans ?_
 rw [Qnf, QkT]
 refine (QdT (enc := Qa7) _ _ (2, QeW) 24 (by decide) (by have := QmK (Qds f.car) (5, QfB); omega) _).trans ?_
 rw [QmE]
 refine stO _ a2 (stO _ rfl ?_)
 have e2 : (if decide (f.num < 1) || decide (f.num > 9999) then [(2, QeW)] else []) = (if !(decide (f.num < 1) || decide (f.num > 9999)) then [] else [((2, QeW) : Ft)]) := by
  cases (decide (f.num < 1) || decide (f.num > 9999)) <;> rfl
 rw [e2]
 simp only [Qas, QaL]
 refine (QdT (enc := Qa7) _ _ (perE f.fr f.to f.days, wPeriod) 24 (by decide) (by
  have := QmK (Qds f.car) (5, QfB)
  have := QmK (!(decide (f.num < 1) || decide (f.num > 9999))) (2, QeW)
  rw [List.length_append]; omega) _).trans ?_
 exact h3
end Go.Proofs
