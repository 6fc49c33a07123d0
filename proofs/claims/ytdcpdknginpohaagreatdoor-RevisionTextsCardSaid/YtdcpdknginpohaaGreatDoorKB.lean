/- Chapter 3 on plain data: the date of a day, by the program and by its reference. Conditions: as each says. -/
import Derived.Test.YtdcpdknginpohaaGreatDoorKA
import Derived.Test.YtdcpdknginpohaaGreatDoorGb
import Derived.Test.YtdcpdknginpohaaGreatDoorRA
set_option linter.unusedSimpArgs false
namespace Go.Proofs
open Go.Am
variable (lb : Nat)
def lenF (y m : Int) : Int := if m = 2 then (if Int.tmod y 4 = 0 then 29 else 28) else if m = 4 ∨ m = 6 ∨ m = 9 ∨ m = 11 then 30 else 31
theorem Qvk (y m : Int) (h : 1 ≤ m ∧ m ≤ 12) : QiD y m = some (lenF y m) := by
 have : m = 1 ∨ m = 2 ∨ m = 3 ∨ m = 4 ∨ m = 5 ∨ m = 6 ∨ m = 7 ∨ m = 8 ∨ m = 9 ∨ m = 10 ∨ m = 11 ∨ m = 12 := by omega
 rcases this with rfl | rfl | rfl | rfl | rfl | rfl | rfl | rfl | rfl | rfl | rfl | rfl
 ·rfl
 ·unfold QiD lenF
  by_cases h : Int.tmod y 4 = 0
  ·rw [if_pos ⟨rfl, h⟩, if_pos rfl, if_pos h]
  ·rw [if_neg (fun q => h q.2), if_pos (by decide), if_pos rfl, if_neg h]
   rfl
 all_goals rfl
theorem QeG (y m : Int) (h : 1 ≤ m ∧ m ≤ 12) : Ret lb QbM [.int .i64 y, .int .i64 m] (.int .i64 (lenF y m)) :=
 .lib (s := Qip) rfl (by
  show (QiD y m).map (CV.int .i64 ·) = _
  rw [Qvk y m h]; rfl)
theorem Qd2 (y m : Int) : Ret lb Qa9 [.int .i64 y, .int .i64 m] (.int .i64 (lenF y m)) := by
 refine .top rfl (.eq (fun n => by rw [QrT]) (.all fun n => ?_))
 unfold lenF
 simp only [QoA]
 by_cases h4 : m = 4
 ·subst h4; rfl
 by_cases h6 : m = 6
 ·subst h6; rfl
 by_cases h9 : m = 9
 ·subst h9; rfl
 rw [beqF h4, cond_false, beqF h6, cond_false, beqF h9, cond_false]
 by_cases h11 : m = 11
 ·subst h11; rfl
 rw [beqF h11, cond_false]
 by_cases h2 : m = 2
 ·subst h2
  rw [beqT rfl, cond_true, if_pos rfl]
  by_cases h : Int.tmod y 4 = 0
  ·rw [beqT h, cond_true, if_pos h]
  ·rw [beqF h, cond_false, if_neg h]
 ·rw [beqF h2, cond_false, if_neg h2, if_neg (by omega)]
theorem QbH (y m : Int) : 28 ≤ lenF y m ∧ lenF y m ≤ 31 := by
 unfold lenF
 split
 ·split <;> omega
 ·split <;> omega
def Qaq (y : Int) : Int := 365 * (y - 2000) + Int.tdiv (y - 2000 + 3) 4
theorem QeS (y : Int) (h : 2000 ≤ y ∧ y ≤ 2200) : Ret lb Qdw [.int .i64 y] (.int .i64 (Qaq y)) := by
 refine .top rfl (.eq (fun n => by rw [Qnq]) (.of ?_))
 have h1 : 0 ≤ Int.tdiv (y - 2000 + 3) 4 := Int.tdiv_nonneg (by omega) (by omega)
 have h2 : Int.tdiv (y - 2000 + 3) 4 ≤ 300 := by rw [Int.tdiv_eq_ediv_of_nonneg (by omega)]; omega
 rw [Qag (x := y - 2000) (by omega) (by omega), Qag (x := 365 * (y - 2000)) (by omega) (by omega), Qag (x := y - 2000 + 3) (by omega) (by omega), Qag (x := Int.tdiv (y - 2000 + 3) 4) (by omega) (by omega), Qag (by omega) (by omega)]
 rfl
theorem QeD (y : Int) (h : 2000 ≤ y) : Qaq (y + 1) = Qaq y + (if Int.tmod y 4 = 0 then 366 else 365) := by
 unfold Qaq
 rw [Int.tdiv_eq_ediv_of_nonneg (by omega), Int.tdiv_eq_ediv_of_nonneg (by omega), Int.tmod_eq_emod_of_nonneg (by omega)]
 split <;> omega
def Qbg (y : Int) : Nat → Int → Int → (Int × Int × Int) ⊕ Int
 | 0, _, rest => .inr rest
 | k + 1, m, rest => if rest < lenF y (m + 1) then .inl (y, m + 1, rest + 1) else Qbg y k (m + 1) (rest - lenF y (m + 1))
def sumL (y : Int) : Nat → Int → Int
 | 0, _ => 0
 | k + 1, m => lenF y (m + 1) + sumL y k (m + 1)
theorem Qn2 (y : Int) : ∀ (k : Nat) (m : Int), 0 ≤ sumL y k m
 | 0, _ => by simp [sumL]
 | k + 1, m => by
  have := Qn2 y k (m + 1)
  have := QbH y (m + 1)
  simp only [sumL]
  omega
theorem Qrn (y : Int) : sumL y 12 0 = (if Int.tmod y 4 = 0 then 366 else 365) := by
 have e1 : lenF y (0 + 1) = 31 := rfl
 have e2 : lenF y (0 + 1 + 1) = if Int.tmod y 4 = 0 then 29 else 28 := rfl
 have e3 : lenF y (0 + 1 + 1 + 1) = 31 := rfl
 have e4 : lenF y (0 + 1 + 1 + 1 + 1) = 30 := rfl
 have e5 : lenF y (0 + 1 + 1 + 1 + 1 + 1) = 31 := rfl
 have e6 : lenF y (0 + 1 + 1 + 1 + 1 + 1 + 1) = 30 := rfl
 have e7 : lenF y (0 + 1 + 1 + 1 + 1 + 1 + 1 + 1) = 31 := rfl
 have e8 : lenF y (0 + 1 + 1 + 1 + 1 + 1 + 1 + 1 + 1) = 31 := rfl
 have e9 : lenF y (0 + 1 + 1 + 1 + 1 + 1 + 1 + 1 + 1 + 1) = 30 := rfl
 have e10 : lenF y (0 + 1 + 1 + 1 + 1 + 1 + 1 + 1 + 1 + 1 + 1) = 31 := rfl
 have e11 : lenF y (0 + 1 + 1 + 1 + 1 + 1 + 1 + 1 + 1 + 1 + 1 + 1) = 30 := rfl
 have e12 : lenF y (0 + 1 + 1 + 1 + 1 + 1 + 1 + 1 + 1 + 1 + 1 + 1 + 1) = 31 := rfl
 simp only [sumL, e1, e2, e3, e4, e5, e6, e7, e8, e9, e10, e11, e12]
 split <;> omega
theorem Qkk (y : Int) : ∀ (k : Nat) (m rest : Int), 0 ≤ rest → (∀ t, Qbg y k m rest = .inl t → rest < sumL y k m) ∧ (∀ r, Qbg y k m rest = .inr r → r = rest - sumL y k m ∧ 0 ≤ r)
 | 0, m, rest, h => by
  refine ⟨fun t q => (by cases q), fun r q => ?_⟩
  cases q
  exact ⟨by simp [sumL], h⟩
 | k + 1, m, rest, h => by
  have hr := QbH y (m + 1)
  have hn := Qn2 y k (m + 1)
  by_cases c : rest < lenF y (m + 1)
  ·simp only [Qbg, if_pos c, sumL]
   exact ⟨fun t q => (by omega), fun r q => (by cases q)⟩
  ·simp only [Qbg, if_neg c, sumL]
   have ih := Qkk y k (m + 1) (rest - lenF y (m + 1)) (by omega)
   refine ⟨fun t q => ?_, fun r q => ?_⟩
   ·have := ih.1 t q; omega
   ·have := ih.2 r q; omega
theorem Qn3 (y rest : Int) (h : rest ≥ (if Int.tmod y 4 = 0 then 366 else 365)) : Qbg y 12 0 rest = .inr (rest - (if Int.tmod y 4 = 0 then 366 else 365)) := by
 have h0 : 0 ≤ rest := by split at h <;> omega
 have hs := Qkk y 12 0 rest h0
 rw [Qrn] at hs
 cases e : Qbg y 12 0 rest with
 | inl t => have := hs.1 t e; omega
 | inr r => rw [(hs.2 r e).1]
theorem QnP (y rest : Int) (h0 : 0 ≤ rest) (h : rest < (if Int.tmod y 4 = 0 then 366 else 365)) : ∃ t, Qbg y 12 0 rest = .inl t := by
 have hs := Qkk y 12 0 rest h0
 rw [Qrn] at hs
 cases e : Qbg y 12 0 rest with
 | inl t => exact ⟨t, rfl⟩
 | inr r => have := hs.2 r e; omega
theorem Qj7 (y : Int) : ∀ (k : Nat) (m rest : Int), 0 ≤ rest → (∀ t, Qbg y k m rest = .inl t → t.1 = y ∧ m + 1 ≤ t.2.1 ∧ t.2.1 ≤ m + k ∧ 1 ≤ t.2.2 ∧ t.2.2 ≤ lenF y t.2.1) ∧ (∀ r, Qbg y k m rest = .inr r → 0 ≤ r ∧ rest ≥ r + 28 * k)
 | 0, m, rest, h => by
  refine ⟨fun t q => (by cases q), fun r q => ?_⟩
  cases q
  exact ⟨h, by simp⟩
 | k + 1, m, rest, h => by
  have hr := QbH y (m + 1)
  by_cases c : rest < lenF y (m + 1)
  ·simp only [Qbg, if_pos c]
   refine ⟨fun t q => ?_, fun r q => by cases q⟩
   cases q
   simp only
   refine ⟨trivial, by omega, by omega, by omega, by omega⟩
  ·simp only [Qbg, if_neg c]
   have ih := Qj7 y k (m + 1) (rest - lenF y (m + 1)) (by omega)
   refine ⟨fun t q => ?_, fun r q => ?_⟩
   ·have := ih.1 t q
    refine ⟨this.1, by omega, by omega, this.2.2.2⟩
   ·have := ih.2 r q
    refine ⟨this.1, by omega⟩
def Qks (D Y : Int) : Prop := 2000 ≤ Y ∧ Y ≤ 2099 ∧ Qaq Y ≤ D ∧ D < Qaq (Y + 1)
theorem Qnz {a b : Int} (ha : 2000 ≤ a) (h : a ≤ b) : Qaq a ≤ Qaq b := by
 unfold Qaq
 rw [Int.tdiv_eq_ediv_of_nonneg (by omega), Int.tdiv_eq_ediv_of_nonneg (by omega)]
 omega
theorem QoR {D a b : Int} (ha : Qks D a) (hb : Qks D b) : a = b := by
 rcases Int.lt_trichotomy a b with h | h | h
 ·have := Qnz (a := a + 1) (b := b) (by have := ha.1; omega) (by omega)
  have := ha.2.2.2; have := hb.2.2.1; omega
 ·exact h
 ·have := Qnz (a := b + 1) (b := a) (by have := hb.1; omega) (by omega)
  have := hb.2.2.2; have := ha.2.2.1; omega
def QrX (D : Int) : Nat → Int → Int
 | 0, y => y
 | k + 1, y => if Qaq (y + 1) ≤ D then QrX D k (y + 1) else y
theorem QsT {D : Int} (hD : D < 36525) : ∀ (k : Nat) (y : Int), 2000 ≤ y → y + k = 2099 → Qaq y ≤ D → Qks D (QrX D k y)
 | 0, y, h0, h, h1 => by
  have : y = 2099 := by omega
  subst this
  exact ⟨by show (2000 : Int) ≤ 2099; omega, by show (2099 : Int) ≤ 2099; omega, h1, by show D < Qaq 2100; rw [show Qaq 2100 = 36525 by decide]; exact hD⟩
 | k + 1, y, h0, h, h1 => by
  unfold QrX
  split
  ·exact QsT hD k (y + 1) (by omega) (by omega) (by assumption)
  ·exact ⟨h0, by omega, h1, by omega⟩
def Qdx (D : Int) : Int := QrX D 99 2000
theorem Qhe {D : Int} (h0 : 0 ≤ D) (hD : D < 36525) : Qks D (Qdx D) := QsT hD 99 2000 (by omega) (by omega) (by rw [show Qaq 2000 = 0 by decide]; exact h0)
def Qa4 (D : Int) : Int × Int × Int := match Qbg (Qdx D) 12 0 (D - Qaq (Qdx D)) with
 | .inl t => t
 | .inr _ => (0, 0, 0)
theorem QhO {D : Int} (h0 : 0 ≤ D) (hD : D < 36525) : Qbg (Qdx D) 12 0 (D - Qaq (Qdx D)) = .inl (Qa4 D) := by
 have hy := Qhe h0 hD
 obtain ⟨t, ht⟩ := QnP (Qdx D) (D - Qaq (Qdx D)) (by have := hy.2.2.1; omega) (by have := hy.2.2.2; rw [QeD _ hy.1] at this; omega)
 unfold Qa4
 rw [ht]
theorem QfE {D : Int} (h0 : 0 ≤ D) (hD : D < 36525) : 2000 ≤ (Qa4 D).1 ∧ (Qa4 D).1 ≤ 2099 ∧ 1 ≤ (Qa4 D).2.1 ∧ (Qa4 D).2.1 ≤ 12 ∧ 1 ≤ (Qa4 D).2.2 ∧ (Qa4 D).2.2 ≤ 31 := by
 have hy := Qhe h0 hD
 have h := (Qj7 (Qdx D) 12 0 (D - Qaq (Qdx D)) (by have := hy.2.2.1; omega)).1 _ (QhO h0 hD)
 have := QbH (Qdx D) (Qa4 D).2.1
 obtain ⟨h1, h2, h3, h4, h5⟩ := h
 have := hy.1; have := hy.2.1
 refine ⟨by omega, by omega, by omega, by omega, by omega, by omega⟩
def tri (t : Int × Int × Int) : CV := .tup [.int .i64 t.1, .int .i64 t.2.1, .int .i64 t.2.2]
theorem QnV (D Y : Int) (jC : CV) (wq : Int) : ∀ (k m : Nat) (rest : Int), m + k = 12 → 0 ≤ rest → rest ≤ 1000 → ∀ t, Qbg Y k (m : Int) rest = .inl t →
  Evt fun n => ∀ j, k < j → Qeb lb n j D Y jC wq rest (m : Int) = some (tri t)
 | 0, m, rest, h, h0, h1, t, q => by cases q
 | k + 1, m, rest, h, h0, h1, t, q => by
  have hr := QbH Y ((m : Int) + 1)
  have hw : IntKind.wrap .i64 ((m : Int) + 1) = (m : Int) + 1 := Qag (by omega) (by omega)
  have hlen := QeG lb Y ((m : Int) + 1) ⟨by omega, by omega⟩
  by_cases c : rest < lenF Y ((m : Int) + 1)
  ·simp only [Qbg, if_pos c] at q
   cases q
   refine hlen.mono fun n hn j hj => ?_
   obtain ⟨j, rfl⟩ : ∃ m, j = m + 1 := ⟨j - 1, by omega⟩
   rw [Qf8, decT (by omega), cond_true, hw, hn]
   simp only [Qaf, Qae, Qbc, QbO, QcC, Qdy, QbI, get0, get1, get2, get3, Qav, cond_true, cond_false, List.length_cons, List.length_nil, Nat.zero_add, Nat.reduceAdd, Nat.reduceBEq, beq_self_eq_true, QaX, Qba]
   rw [decT c, cond_true, Qag (x := rest + 1) (by omega) (by omega)]
   rfl
  ·simp only [Qbg, if_neg c] at q
   refine Evt.imp2 hlen (QnV D Y jC wq k (m + 1) (rest - lenF Y ((m : Int) + 1)) (by omega) (by omega) (by omega) t (by exact_mod_cast q)) fun n hn hi j hj => ?_
   obtain ⟨j, rfl⟩ : ∃ m, j = m + 1 := ⟨j - 1, by omega⟩
   rw [Qf8, decT (by omega), cond_true, hw, hn]
   simp only [Qaf, Qae, Qbc, QbO, QcC, Qdy, QbI, get0, get1, get2, get3, Qav, cond_true, cond_false, List.length_cons, List.length_nil, Nat.zero_add, Nat.reduceAdd, Nat.reduceBEq, beq_self_eq_true, QaX, Qba]
   rw [decF c, cond_false, Qag (x := rest - lenF Y ((m : Int) + 1)) (by omega) (by omega)]
   exact_mod_cast hi j (by omega)
theorem Qp2 {D : Int} (h0 : 0 ≤ D) (hD : D < 36525) : ∀ (k : Nat) (y : Int), 2000 ≤ y → y + k = 2099 → Qaq y ≤ D → Evt fun n => ∀ j, k < j → Qef lb n j D y = some (tri (Qa4 D))
 | k, y, h1, h2, h3 => by
  have hf := QeS lb (y + 1) ⟨by omega, by omega⟩
  have hw : IntKind.wrap .i64 (y + 1) = y + 1 := Qag (by omega) (by omega)
  by_cases c : Qaq (y + 1) ≤ D
  ·match k, h2 with
   | 0, h2 =>
    exfalso
    have : y = 2099 := by omega
    subst this
    rw [show Qaq (2099 + 1) = 36525 by decide] at c
    omega
   | k + 1, h2 =>
    refine Evt.imp2 hf (Qp2 h0 hD k (y + 1) (by omega) (by omega) c) fun n hn hi j hj => ?_
    obtain ⟨j, rfl⟩ : ∃ m, j = m + 1 := ⟨j - 1, by omega⟩
    rw [Qgb, hw, hn]
    simp only [Qaf, Qae, Qbc, QbO, QcC, Qdy, QbI, get0, get1, get2, get3, Qav, cond_true, cond_false, List.length_cons, List.length_nil, Nat.zero_add, Nat.reduceAdd, Nat.reduceBEq, beq_self_eq_true, QaX, Qba]
    rw [decT c, cond_true]
    exact hi j (by omega)
  ·have hY : Qks D y := ⟨h1, by omega, h3, by omega⟩
   have hy : y = Qdx D := QoR hY (Qhe h0 hD)
   have hm := QnV lb D y (.int .i64 (Qaq y)) (Qaq y) 12 0 (D - Qaq y) rfl (by omega) (by have := hY.2.2.2; rw [QeD y h1] at this; split at this <;> omega) (Qa4 D) (by rw [hy]; exact QhO h0 hD)
   refine Evt.imp2 (Evt.imp2 hf (QeS lb y ⟨by omega, by omega⟩) fun n a b => And.intro a b) (hm.and (Evt.ge 13)) fun n hn hi j hj => ?_
   obtain ⟨j, rfl⟩ : ∃ m, j = m + 1 := ⟨j - 1, by omega⟩
   rw [Qgb, hw, hn.1]
   simp only [Qaf, Qae, Qbc, QbO, QcC, Qdy, QbI, get0, get1, get2, get3, Qav, cond_true, cond_false, List.length_cons, List.length_nil, Nat.zero_add, Nat.reduceAdd, Nat.reduceBEq, beq_self_eq_true, QaX, Qba]
   rw [decF c, cond_false, Ql5, hn.2]
   simp only [Qaf, Qae, Qbc, QbO, QcC, Qdy, QbI, get0, get1, get2, get3, Qav, cond_true, cond_false, List.length_cons, List.length_nil, Nat.zero_add, Nat.reduceAdd, Nat.reduceBEq, beq_self_eq_true, QaX, Qba]
   rw [Qag (x := D - Qaq y) (by omega) (by have : 0 ≤ Qaq y := (by unfold Qaq; have := Int.tdiv_nonneg (a := y - 2000 + 3) (b := 4) (by omega) (by omega); omega); omega)]
   exact hi.1 n (by omega)
theorem Qnw (D : Int) (h0 : 0 ≤ D) (hD : D < 36525) : Ret lb QaE [.int .i64 D] (tri (Qa4 D)) := by
 refine .top rfl (.eq (fun n => by rw [Qor]) ?_)
 have q0 : 0 ≤ Int.tdiv D 366 := Int.tdiv_nonneg h0 (by decide)
 have q1 : Int.tdiv D 366 ≤ 99 := by rw [Int.tdiv_eq_ediv_of_nonneg h0]; omega
 simp only [decF (show ¬ D < 0 by omega), cond_false, decF (show ¬ D ≥ 36525 by omega), Qag (x := Int.tdiv D 366) (by omega) (by omega), Qag (x := 2000 + Int.tdiv D 366) (by omega) (by omega)]
 obtain ⟨k, hk⟩ := Int.eq_ofNat_of_zero_le (show 0 ≤ 2099 - (2000 + Int.tdiv D 366) by omega)
 refine Evt.diag (Qp2 lb h0 hD k (2000 + Int.tdiv D 366) (by omega) (by omega) ?_)
 unfold Qaq
 rw [Int.tdiv_eq_ediv_of_nonneg h0, Int.tdiv_eq_ediv_of_nonneg (by omega)]
 omega
def QjO (day y m : Int) (r : CV) : Prop := ∃ c, Evt fun n => ∀ k, c < k → QfA lb n k day y m = some r
theorem QuL {day y m : Int} (h : day < lenF y m) (h0 : 0 ≤ day) : QjO lb day y m (.tup [.int .i64 y, .int .i64 m, .int .i64 (day + 1)]) := by
 have := QbH y m
 refine ⟨0, (Qd2 lb y m).mono fun n hn k hk => ?_⟩
 obtain ⟨k, rfl⟩ : ∃ m, k = m + 1 := ⟨k - 1, by omega⟩
 rw [QfV, hn]
 simp only [Qaf, Qae, Qbc, QbO, QcC, Qdy, QbI, get0, get1, get2, get3, Qav, cond_true, cond_false, List.length_cons, List.length_nil, Nat.zero_add, Nat.reduceAdd, Nat.reduceBEq, beq_self_eq_true, QaX, Qba]
 rw [decF (by omega), cond_false, Qqp, Qag (by omega) (by omega)]
theorem QuN {day y m : Int} {r : CV} (h : lenF y m ≤ day) (hd : day ≤ 100000) (hm : 1 ≤ m ∧ m < 12) (hr : QjO lb (day - lenF y m) y (m + 1) r) : QjO lb day y m r := by
 obtain ⟨c, hc⟩ := hr
 have := QbH y m
 refine ⟨c + 1, Evt.imp2 (Qd2 lb y m) hc fun n hn hi k hk => ?_⟩
 obtain ⟨k, rfl⟩ : ∃ m, k = m + 1 := ⟨k - 1, by omega⟩
 rw [QfV, hn]
 simp only [Qaf, Qae, Qbc, QbO, QcC, Qdy, QbI, get0, get1, get2, get3, Qav, cond_true, cond_false, List.length_cons, List.length_nil, Nat.zero_add, Nat.reduceAdd, Nat.reduceBEq, beq_self_eq_true, QaX, Qba]
 rw [decT (by omega), cond_true, Qag (x := m + 1) (by omega) (by omega), beqF (by omega), cond_false, Qag (by omega) (by omega)]
 exact hi k (by omega)
theorem QuW {day y : Int} {r : CV} (h : lenF y 12 ≤ day) (hd : day ≤ 100000) (hy : 2000 ≤ y ∧ y ≤ 3000) (hr : QjO lb (day - lenF y 12) (y + 1) 1 r) : QjO lb day y 12 r := by
 obtain ⟨c, hc⟩ := hr
 have := QbH y 12
 refine ⟨c + 1, Evt.imp2 (Qd2 lb y 12) hc fun n hn hi k hk => ?_⟩
 obtain ⟨k, rfl⟩ : ∃ m, k = m + 1 := ⟨k - 1, by omega⟩
 rw [QfV, hn]
 simp only [Qaf, Qae, Qbc, QbO, QcC, Qdy, QbI, get0, get1, get2, get3, Qav, cond_true, cond_false, List.length_cons, List.length_nil, Nat.zero_add, Nat.reduceAdd, Nat.reduceBEq, beq_self_eq_true, QaX, Qba]
 rw [decT (by omega), cond_true, Qag (x := 12 + 1) (by omega) (by omega), beqT (by omega), cond_true, Qag (x := y + 1) (by omega) (by omega), Qag (by omega) (by omega)]
 exact hi k (by omega)
theorem QmK (y : Int) (hy : 2000 ≤ y ∧ y ≤ 3000) {r : CV} : ∀ (k : Nat) (m day : Int), m + (k + 1) = 12 → 0 ≤ m → 0 ≤ day → day ≤ 100000 →
  (∀ t, Qbg y (k + 1) m day = .inl t → r = tri t) → (∀ q, Qbg y (k + 1) m day = .inr q → QjO lb q (y + 1) 1 r) → QjO lb day y (m + 1) r
 | k, m, day, h, hm, h0, h1, hl, hr => by
  have hlr := QbH y (m + 1)
  by_cases c : day < lenF y (m + 1)
  ·simp only [Qbg, if_pos c] at hl
   rw [hl _ rfl]
   exact QuL lb c h0
  ·simp only [Qbg, if_neg c] at hl hr
   match k, h with
   | 0, h =>
    have : m + 1 = 12 := by omega
    rw [this] at c hlr hr ⊢
    exact QuW lb (by omega) h1 hy (hr _ rfl)
   | k + 1, h => exact QuN lb (by omega) h1 ⟨by omega, by omega⟩ (QmK y hy k (m + 1) (day - lenF y (m + 1)) (by omega) (by omega) (by omega) (by omega) hl hr)
theorem Qn7 {D : Int} (h0 : 0 ≤ D) (hD : D < 36525) : ∀ (k : Nat) (y : Int), 2000 ≤ y → y + k = 2099 → Qaq y ≤ D → QjO lb (D - Qaq y) y 1 (tri (Qa4 D))
 | k, y, h1, h2, h3 => by
  have hf0 : 0 ≤ Qaq y := by unfold Qaq; have := Int.tdiv_nonneg (a := y - 2000 + 3) (b := 4) (by omega) (by omega); omega
  have hst := QeD y h1
  refine QmK lb y ⟨h1, by omega⟩ 11 0 (D - Qaq y) (by omega) (by omega) (by omega) (by omega) (fun t ht => ?_) fun q hq => ?_
  ·by_cases c : Qaq (y + 1) ≤ D
   ·rw [Qn3 y _ (by rw [hst] at c; omega)] at ht
    cases ht
   ·have hY : Qks D y := ⟨h1, by omega, h3, by omega⟩
    have hy : y = Qdx D := QoR hY (Qhe h0 hD)
    have := QhO h0 hD
    rw [← hy, ht] at this
    cases this
    rfl
  ·by_cases c : Qaq (y + 1) ≤ D
   ·rw [Qn3 y _ (by rw [hst] at c; omega)] at hq
    cases hq
    rw [show D - Qaq y - (if Int.tmod y 4 = 0 then 366 else 365) = D - Qaq (y + 1) by rw [hst]; omega]
    match k, h2 with
    | 0, h2 =>
     exfalso
     have : y = 2099 := by omega
     subst this
     rw [show Qaq (2099 + 1) = 36525 by decide] at c
     omega
    | k + 1, h2 => exact Qn7 h0 hD k (y + 1) (by omega) (by omega) c
   ·obtain ⟨t, ht⟩ := QnP y (D - Qaq y) (by omega) (by rw [hst] at c; omega)
    rw [ht] at hq
    cases hq
theorem QsR (D : Int) (h0 : 0 ≤ D) (hD : D < 36525) : Ret lb Qci [.int .i64 D] (tri (Qa4 D)) := by
 refine .top rfl (.eq (fun n => by rw [QtJ]) ?_)
 simp only [decF (show ¬ D < 0 by omega), cond_false, decF (show ¬ D ≥ 36525 by omega)]
 obtain ⟨c, hc⟩ := Qn7 lb h0 hD 99 2000 (by omega) (by omega) (by rw [show Qaq 2000 = 0 by decide]; exact h0)
 rw [show Qaq 2000 = 0 by decide, Int.sub_zero] at hc
 exact Evt.diag hc
def twoS (z : Int) : Bs := [UInt8.ofNat (IntKind.wrap .u8 (IntKind.wrap .i64 (48 + IntKind.wrap .i64 (Int.tdiv z 10)))).toNat, UInt8.ofNat (IntKind.wrap .u8 (IntKind.wrap .i64 (48 + Int.tmod z 10))).toNat]
theorem QyR (x : Int) : 0 ≤ IntKind.wrap .u8 x ∧ IntKind.wrap .u8 x < 256 := by
 unfold IntKind.wrap
 simp only [IntKind.bits, IntKind.signed]
 simp
 omega
theorem QqM (x y : Int) : bytesOf [[CV.int .u8 (IntKind.wrap .u8 x)], [CV.int .u8 (IntKind.wrap .u8 y)]] = some [UInt8.ofNat (IntKind.wrap .u8 x).toNat, UInt8.ofNat (IntKind.wrap .u8 y).toNat] := by
 simp only [bytesOf, QyR, and_self, if_true, Option.map_some]
theorem Qec (z : Int) : Ret lb Qdo [.int .i64 z] (.str (twoS z)) :=
 .top rfl (.all fun n => by rw [Qpv, QqM, Qaf]; rfl)
theorem Qhm (z : Int) : Ret lb Qf7 [.int .i64 z] (.str (twoS z)) :=
 .top rfl (.all fun n => by rw [Qvw, QqM, Qaf]; rfl)
def QbS (D : Int) : Bs := ((((twoS (IntKind.wrap .i64 (Int.tdiv (Qa4 D).1 100)) ++ twoS (Int.tmod (Qa4 D).1 100)) ++ [45]) ++ twoS (Qa4 D).2.1) ++ [45]) ++ twoS (Qa4 D).2.2
theorem QhN (D : Int) (h0 : 0 ≤ D) (hD : D < 36525) : Ret lb Qd9 [.int .i64 D] (.str (QbS D)) := by
 refine .top rfl (.eq (fun n => by rw [Qnt]) ?_)
 refine .call (Qnw lb D h0 hD) ?_
 have hr := QfE h0 hD
 simp only [tri, Qaf, Qae, Qbc, QbO, QcC, Qdy, QbI, get0, get1, get2, get3, Qav, cond_true, cond_false, List.length_cons, List.length_nil, Nat.zero_add, Nat.reduceAdd, Nat.reduceBEq, beq_self_eq_true, QaX, Qba]
 rw [show ((Qa4 D).1 == 0) = false from beqF (by omega)]
 simp only [cond_false]
 refine .call (Qec lb _) (.call (Qec lb _) ?_)
 simp only [Qaf, Qae, Qbc, QbO, QcC, Qdy, QbI, get0, get1, get2, get3, Qav, cond_true, cond_false, List.length_cons, List.length_nil, Nat.zero_add, Nat.reduceAdd, Nat.reduceBEq, beq_self_eq_true, QaX, Qba]
 refine .chk (by simp [twoS]) (.chk (by simp [twoS]) (.call (Qec lb _) ?_))
 simp only [Qaf, Qae, Qbc, QbO, QcC, Qdy, QbI, get0, get1, get2, get3, Qav, cond_true, cond_false, List.length_cons, List.length_nil, Nat.zero_add, Nat.reduceAdd, Nat.reduceBEq, beq_self_eq_true, QaX, Qba]
 refine .chk (by simp [twoS]) (.chk (by simp [twoS]) (.call (Qec lb _) ?_))
 simp only [Qaf, Qae, Qbc, QbO, QcC, Qdy, QbI, get0, get1, get2, get3, Qav, cond_true, cond_false, List.length_cons, List.length_nil, Nat.zero_add, Nat.reduceAdd, Nat.reduceBEq, beq_self_eq_true, QaX, Qba]
 exact .chk (by simp [twoS]) (.of rfl)
theorem QlR (D : Int) (h0 : 0 ≤ D) (hD : D < 36525) : Ret lb Qhq [.int .i64 D] (.str (QbS D)) := by
 refine .top rfl (.eq (fun n => by rw [Qsy]) ?_)
 refine .call (QsR lb D h0 hD) ?_
 have hr := QfE h0 hD
 simp only [tri, Qaf, Qae, Qbc, QbO, QcC, Qdy, QbI, get0, get1, get2, get3, Qav, cond_true, cond_false, List.length_cons, List.length_nil, Nat.zero_add, Nat.reduceAdd, Nat.reduceBEq, beq_self_eq_true, QaX, Qba]
 rw [show ((Qa4 D).1 == 0) = false from beqF (by omega)]
 simp only [cond_false]
 refine .call (Qhm lb _) (.call (Qhm lb _) ?_)
 simp only [Qaf, Qae, Qbc, QbO, QcC, Qdy, QbI, get0, get1, get2, get3, Qav, cond_true, cond_false, List.length_cons, List.length_nil, Nat.zero_add, Nat.reduceAdd, Nat.reduceBEq, beq_self_eq_true, QaX, Qba]
 refine .chk (by simp [twoS]) (.chk (by simp [twoS]) (.call (Qhm lb _) ?_))
 simp only [Qaf, Qae, Qbc, QbO, QcC, Qdy, QbI, get0, get1, get2, get3, Qav, cond_true, cond_false, List.length_cons, List.length_nil, Nat.zero_add, Nat.reduceAdd, Nat.reduceBEq, beq_self_eq_true, QaX, Qba]
 refine .chk (by simp [twoS]) (.chk (by simp [twoS]) (.call (Qhm lb _) ?_))
 simp only [Qaf, Qae, Qbc, QbO, QcC, Qdy, QbI, get0, get1, get2, get3, Qav, cond_true, cond_false, List.length_cons, List.length_nil, Nat.zero_add, Nat.reduceAdd, Nat.reduceBEq, beq_self_eq_true, QaX, Qba]
 exact .chk (by simp [twoS]) (.of rfl)
end Go.Proofs
set_option linter.unusedSimpArgs false
namespace Go.Proofs
open Go.Am
variable (lb : Nat)
theorem Qqy {α : Type} {enc : α → List CV} (c : Bool) (F : List α) (x : α) (m : Nat) (hm : m ≤ 1000) (hF : F.length ≤ 100000) (J : Bool → List (List CV) → Option CV) :
  (bif c then chkO (room ((F.map enc).length + 1) m) (J (F.isEmpty && false) (F.map enc ++ [enc x])) else J F.isEmpty (F.map enc)) = J (F ++ if c then [x] else []).isEmpty ((F ++ if c then [x] else []).map enc) := by
 cases c with
 | true => simp only [cond_true, Qx7 (n := (F.map enc).length + 1) (b := m) (by simp; omega) hm, Qav, if_true, List.map_append, List.map_cons, List.map_nil, Qw7 F x]
 | false => simp only [cond_false, Bool.false_eq_true, if_false, List.append_nil]
theorem Qwy {β : Type} (c d : Bool) (x y : β) : (bif c then x else bif d then x else y) = (bif c || d then x else y) := by cases c <;> rfl
theorem QxT {α : Type} {enc : α → List CV} (c : Bool) (x : α) (J : Bool → List (List CV) → Option CV) :
  (bif !c then J false [enc x] else J true []) = J (if c then ([] : List α) else [x]).isEmpty ((if c then [] else [x]).map enc) := by cases c <;> rfl
abbrev Ft := Int × Bs
def Qnk (x : Ft) : List CV := [.int .i64 x.1, .str x.2]
def okM (m : Int) : Bool := decide (-1440 ≤ m ∧ m < 5760)
def QgU : Bs := [99, 97, 114, 114, 105, 101, 114]
def Qg0 : Bs := [110, 117, 109, 98, 101, 114]
def Qnn : Bs := [112, 101, 114, 105, 111, 100]
def Qvc : Bs := [108, 101, 103, 115]
def QpO (f : Fl) : List Ft := ((if Qa1 f.car then [] else [(5, QgU)]) ++ (if !(decide (f.num < 1) || decide (f.num > 9999)) then [] else [(2, Qg0)])) ++ (if perE f.fr f.to f.days != 0 then [(perE f.fr f.to f.days, Qnn)] else [])
def Qo6 (f : Fl) : List Ft := QpO f ++ (if decide ((f.legs.length : Int) < 1) || decide ((f.legs.length : Int) > 6) then [(4, Qvc)] else [])
theorem Qv4 (f : Fl) : (QpO f).length ≤ 3 := by
 have h : ∀ (c : Bool) (e : Ft), (if c then [] else [e] : List Ft).length ≤ 1 := fun c e => by cases c <;> simp
 have h' : ∀ (c : Bool) (e : Ft), (if c then [e] else [] : List Ft).length ≤ 1 := fun c e => by cases c <;> simp
 unfold QpO
 rw [List.length_append, List.length_append]
 have := h (Qa1 f.car) (5, QgU)
 have := h (!(decide (f.num < 1) || decide (f.num > 9999))) (2, Qg0)
 have := h' (perE f.fr f.to f.days != 0) (perE f.fr f.to f.days, Qnn)
 omega
theorem Qtm (f : Fl) (hc : f.car.length ≤ 281474976710656) : Ret lb Qch [flcv f] (.list (Qo6 f).isEmpty ((Qo6 f).map Qnk)) := by
 have h1' : ∀ (c : Bool) (e : Ft), (if c then [] else [e] : List Ft).length ≤ 1 := fun c e => by cases c <;> simp
 refine .top rfl (Evt.imp2 (QjW lb f.car (by omega)) (QfL lb f.fr f.to f.days) fun n a1 a2 => ?_)
 rw [QtS, a1]
 simp only [Qaf, Qae, Qbc, QbO, QcC, Qdy, QbI, get0, get1, get2, get3, Qav, cond_true, cond_false, List.length_cons, List.length_nil, Nat.zero_add, Nat.reduceAdd, Nat.reduceBEq, beq_self_eq_true, QaX, Qba]
 refine (QxT (enc := Qnk) (Qa1 f.car) (5, QgU) _).trans ?_
 rw [Qqs, Qwy]
 refine (Qqy (enc := Qnk) _ _ (2, Qg0) 24 (by decide) (by have := h1' (Qa1 f.car) (5, QgU); omega) _).trans ?_
 rw [Qqf, a2]
 simp only [Qaf, Qae, Qbc, QbO, QcC, Qdy, QbI, get0, get1, get2, get3, Qav, cond_true, cond_false, List.length_cons, List.length_nil, Nat.zero_add, Nat.reduceAdd, Nat.reduceBEq, beq_self_eq_true, QaX, Qba]
 have e2 : (if decide (f.num < 1) || decide (f.num > 9999) then [(2, Qg0)] else []) = (if !(decide (f.num < 1) || decide (f.num > 9999)) then [] else [((2, Qg0) : Ft)]) := by
  cases (decide (f.num < 1) || decide (f.num > 9999)) <;> rfl
 rw [e2]
 refine (Qqy (enc := Qnk) _ _ (perE f.fr f.to f.days, Qnn) 24 (by decide) (by
  have := h1' (Qa1 f.car) (5, QgU)
  have := h1' (!(decide (f.num < 1) || decide (f.num > 9999))) (2, Qg0)
  rw [List.length_append]; omega) _).trans ?_
 rw [Qp8, Qwy, List.length_map]
 exact (Qqy (enc := Qnk) _ _ (4, Qvc) 24 (by decide) (by have := Qv4 f; unfold QpO at this; omega) (fun b l => some (.list b l)))
end Go.Proofs
set_option linter.unusedSimpArgs false
namespace Go.Proofs
open Go.Am
variable (lb : Nat)
end Go.Proofs
set_option linter.unusedSimpArgs false
namespace Go.Proofs
open Go.Am
variable (lb : Nat)
end Go.Proofs
