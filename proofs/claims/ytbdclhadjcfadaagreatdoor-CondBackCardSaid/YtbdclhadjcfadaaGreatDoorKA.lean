/- Chapter 7 on plain data: airports, zones, periods; finding an airport, the minute UTC of a local minute, the days of a period. Conditions: as each says. -/
import Derived.Test.YtbdclhadjcfadaaGreatDoorGa
import Derived.Test.YtbdclhadjcfadaaGreatDoorRA
import Derived.Test.YtbdclhadjcfadaaGreatDoorGb
set_option linter.unusedSimpArgs false
namespace Go.Proofs
open Go.Am
variable (lb : Nat)
end Go.Proofs
set_option linter.unusedSimpArgs false
namespace Go.Proofs
open Go.Am
variable (lb : Nat)
theorem Qfk (fr to days : Int) : Ret lb QbT [.agg [.int .i64 fr, .int .i64 to, .int .i64 days]] (.int .i64 (perE fr to days)) := by
 refine .top rfl (.eq (fun n => by rw [Qm5]) (.of ?_))
 unfold perE
 by_cases h1 : fr < 0
 ·rw [decT h1, cond_true, if_pos (.inl h1)]
 by_cases h2 : to < fr
 ·rw [decF h1, cond_false, decT h2, cond_true, if_pos (.inr (.inl h2))]
 by_cases h3 : to ≥ 36525
 ·rw [decF h1, cond_false, decF h2, cond_false, decT h3, cond_true, if_pos (.inr (.inr h3))]
 rw [decF h1, cond_false, decF h2, cond_false, decF h3, cond_false, if_neg (by omega), Qat (by omega) (by omega)]
 by_cases h4 : to - fr ≥ 800
 ·rw [decT h4, cond_true, if_pos h4]
 rw [decF h4, cond_false, if_neg h4]
 by_cases h5 : days < 1
 ·rw [decT h5, cond_true, if_pos (.inl h5)]
 by_cases h6 : days > 127
 ·rw [decF h5, cond_false, decT h6, cond_true, if_pos (.inr h6)]
 rw [decF h5, cond_false, decF h6, cond_false, if_neg (by omega)]
end Go.Proofs
set_option linter.unusedSimpArgs false
namespace Go.Proofs
open Go.Am
variable (lb : Nat)
end Go.Proofs
set_option linter.unusedSimpArgs false
namespace Go.Proofs
open Go.Am
variable (lb : Nat)
def lenF (y m : Int) : Int := if m = 2 then (if Int.tmod y 4 = 0 then 29 else 28) else if m = 4 ∨ m = 6 ∨ m = 9 ∨ m = 11 then 30 else 31
theorem Qs0 (y m : Int) (h : 1 ≤ m ∧ m ≤ 12) : Qhy y m = some (lenF y m) := by
 have : m = 1 ∨ m = 2 ∨ m = 3 ∨ m = 4 ∨ m = 5 ∨ m = 6 ∨ m = 7 ∨ m = 8 ∨ m = 9 ∨ m = 10 ∨ m = 11 ∨ m = 12 := by omega
 rcases this with rfl | rfl | rfl | rfl | rfl | rfl | rfl | rfl | rfl | rfl | rfl | rfl
 ·rfl
 ·unfold Qhy lenF
  by_cases h : Int.tmod y 4 = 0
  ·rw [if_pos ⟨rfl, h⟩, if_pos rfl, if_pos h]
  ·rw [if_neg (fun q => h q.2), if_pos (by decide), if_pos rfl, if_neg h]
   rfl
 all_goals rfl
theorem Qeb (y m : Int) (h : 1 ≤ m ∧ m ≤ 12) : Ret lb Qbu [.int .i64 y, .int .i64 m] (.int .i64 (lenF y m)) :=
 .lib (s := Qhw) rfl (by
  show (Qhy y m).map (CV.int .i64 ·) = _
  rw [Qs0 y m h]; rfl)
theorem QdZ (y m : Int) : 28 ≤ lenF y m ∧ lenF y m ≤ 31 := by
 unfold lenF
 split
 ·split <;> omega
 ·split <;> omega
def QaP (y : Int) : Int := 365 * (y - 2000) + Int.tdiv (y - 2000 + 3) 4
theorem Qer (y : Int) (h : 2000 ≤ y ∧ y ≤ 2200) : Ret lb Qc6 [.int .i64 y] (.int .i64 (QaP y)) := by
 refine .top rfl (.eq (fun n => by rw [QlN]) (.of ?_))
 have h1 : 0 ≤ Int.tdiv (y - 2000 + 3) 4 := Int.tdiv_nonneg (by omega) (by omega)
 have h2 : Int.tdiv (y - 2000 + 3) 4 ≤ 300 := by rw [Int.tdiv_eq_ediv_of_nonneg (by omega)]; omega
 rw [Qat (x := y - 2000) (by omega) (by omega), Qat (x := 365 * (y - 2000)) (by omega) (by omega), Qat (x := y - 2000 + 3) (by omega) (by omega), Qat (x := Int.tdiv (y - 2000 + 3) 4) (by omega) (by omega), Qat (by omega) (by omega)]
 rfl
theorem Qmq (y : Int) (h : 2000 ≤ y) : QaP (y + 1) = QaP y + (if Int.tmod y 4 = 0 then 366 else 365) := by
 unfold QaP
 rw [Int.tdiv_eq_ediv_of_nonneg (by omega), Int.tdiv_eq_ediv_of_nonneg (by omega), Int.tmod_eq_emod_of_nonneg (by omega)]
 split <;> omega
def QbK (y : Int) : Nat → Int → Int → (Int × Int × Int) ⊕ Int
 | 0, _, rest => .inr rest
 | k + 1, m, rest => if rest < lenF y (m + 1) then .inl (y, m + 1, rest + 1) else QbK y k (m + 1) (rest - lenF y (m + 1))
def sumL (y : Int) : Nat → Int → Int
 | 0, _ => 0
 | k + 1, m => lenF y (m + 1) + sumL y k (m + 1)
theorem Ql2 (y : Int) : ∀ (k : Nat) (m : Int), 0 ≤ sumL y k m
 | 0, _ => by simp [sumL]
 | k + 1, m => by
  have := Ql2 y k (m + 1)
  have := QdZ y (m + 1)
  simp only [sumL]
  omega
theorem Que (y : Int) : sumL y 12 0 = (if Int.tmod y 4 = 0 then 366 else 365) := by
 have e1 : lenF y (0 + 1) = 31 := rfl
 have e2 : lenF y (0 + 1 + 1) = if Int.tmod y 4 = 0 then 29 else 28 := rfl
 have e3 : lenF y (0 + 1 + 1 + 1) = 31 := rfl
 have e4 : lenF y (0 + 1 + 1 + 1 + 1) = 30 := rfl
 have e5 : lenF y (0 + 1 + 1 + 1 + 1 + 1) = 31 := rfl
 have e6 : lenF y (0 + 1 + 1 + 1 + 1 + 1 + 1) = 30 := rfl
 have e7 : lenF y (0 + 1 + 1 + 1 + 1 + 1 + 1 + 1) = 31 := rfl
 have e8 : lenF y (0 + 1 + 1 + 1 + 1 + 1 + 1 + 1 + 1) = 31 := rfl
 have e9 : lenF y (0 + 1 + 1 + 1 + 1 + 1 + 1 + 1 + 1 + 1) = 30 := rfl
 have e10 : lenF y (0 + 1 + 1 + 1 + 1 + 1 + 1 + 1 + 1 + 1 + 1) = 31 := rfl
 have e11 : lenF y (0 + 1 + 1 + 1 + 1 + 1 + 1 + 1 + 1 + 1 + 1 + 1) = 30 := rfl
 have e12 : lenF y (0 + 1 + 1 + 1 + 1 + 1 + 1 + 1 + 1 + 1 + 1 + 1 + 1) = 31 := rfl
 simp only [sumL, e1, e2, e3, e4, e5, e6, e7, e8, e9, e10, e11, e12]
 split <;> omega
theorem Qma (y : Int) : ∀ (k : Nat) (m rest : Int), 0 ≤ rest → (∀ t, QbK y k m rest = .inl t → rest < sumL y k m) ∧ (∀ r, QbK y k m rest = .inr r → r = rest - sumL y k m ∧ 0 ≤ r)
 | 0, m, rest, h => by
  refine ⟨fun t q => (by cases q), fun r q => ?_⟩
  cases q
  exact ⟨by simp [sumL], h⟩
 | k + 1, m, rest, h => by
  have hr := QdZ y (m + 1)
  have hn := Ql2 y k (m + 1)
  by_cases c : rest < lenF y (m + 1)
  ·simp only [QbK, if_pos c, sumL]
   exact ⟨fun t q => (by omega), fun r q => (by cases q)⟩
  ·simp only [QbK, if_neg c, sumL]
   have ih := Qma y k (m + 1) (rest - lenF y (m + 1)) (by omega)
   refine ⟨fun t q => ?_, fun r q => ?_⟩
   ·have := ih.1 t q; omega
   ·have := ih.2 r q; omega
theorem Qrv (y rest : Int) (h0 : 0 ≤ rest) (h : rest < (if Int.tmod y 4 = 0 then 366 else 365)) : ∃ t, QbK y 12 0 rest = .inl t := by
 have hs := Qma y 12 0 rest h0
 rw [Que] at hs
 cases e : QbK y 12 0 rest with
 | inl t => exact ⟨t, rfl⟩
 | inr r => have := hs.2 r e; omega
theorem QiC (y : Int) : ∀ (k : Nat) (m rest : Int), 0 ≤ rest → (∀ t, QbK y k m rest = .inl t → t.1 = y ∧ m + 1 ≤ t.2.1 ∧ t.2.1 ≤ m + k ∧ 1 ≤ t.2.2 ∧ t.2.2 ≤ lenF y t.2.1) ∧ (∀ r, QbK y k m rest = .inr r → 0 ≤ r ∧ rest ≥ r + 28 * k)
 | 0, m, rest, h => by
  refine ⟨fun t q => (by cases q), fun r q => ?_⟩
  cases q
  exact ⟨h, by simp⟩
 | k + 1, m, rest, h => by
  have hr := QdZ y (m + 1)
  by_cases c : rest < lenF y (m + 1)
  ·simp only [QbK, if_pos c]
   refine ⟨fun t q => ?_, fun r q => by cases q⟩
   cases q
   simp only
   refine ⟨trivial, by omega, by omega, by omega, by omega⟩
  ·simp only [QbK, if_neg c]
   have ih := QiC y k (m + 1) (rest - lenF y (m + 1)) (by omega)
   refine ⟨fun t q => ?_, fun r q => ?_⟩
   ·have := ih.1 t q
    refine ⟨this.1, by omega, by omega, this.2.2.2⟩
   ·have := ih.2 r q
    refine ⟨this.1, by omega⟩
def QkE (D Y : Int) : Prop := 2000 ≤ Y ∧ Y ≤ 2099 ∧ QaP Y ≤ D ∧ D < QaP (Y + 1)
theorem Qmk {a b : Int} (ha : 2000 ≤ a) (h : a ≤ b) : QaP a ≤ QaP b := by
 unfold QaP
 rw [Int.tdiv_eq_ediv_of_nonneg (by omega), Int.tdiv_eq_ediv_of_nonneg (by omega)]
 omega
theorem Qta {D a b : Int} (ha : QkE D a) (hb : QkE D b) : a = b := by
 rcases Int.lt_trichotomy a b with h | h | h
 ·have := Qmk (a := a + 1) (b := b) (by have := ha.1; omega) (by omega)
  have := ha.2.2.2; have := hb.2.2.1; omega
 ·exact h
 ·have := Qmk (a := b + 1) (b := a) (by have := hb.1; omega) (by omega)
  have := hb.2.2.2; have := ha.2.2.1; omega
def QpY (D : Int) : Nat → Int → Int
 | 0, y => y
 | k + 1, y => if QaP (y + 1) ≤ D then QpY D k (y + 1) else y
theorem QqQ {D : Int} (hD : D < 36525) : ∀ (k : Nat) (y : Int), 2000 ≤ y → y + k = 2099 → QaP y ≤ D → QkE D (QpY D k y)
 | 0, y, h0, h, h1 => by
  have : y = 2099 := by omega
  subst this
  exact ⟨by show (2000 : Int) ≤ 2099; omega, by show (2099 : Int) ≤ 2099; omega, h1, by show D < QaP 2100; rw [show QaP 2100 = 36525 by decide]; exact hD⟩
 | k + 1, y, h0, h, h1 => by
  unfold QpY
  split
  ·exact QqQ hD k (y + 1) (by omega) (by omega) (by assumption)
  ·exact ⟨h0, by omega, h1, by omega⟩
def QdB (D : Int) : Int := QpY D 99 2000
theorem QjJ {D : Int} (h0 : 0 ≤ D) (hD : D < 36525) : QkE D (QdB D) := QqQ hD 99 2000 (by omega) (by omega) (by rw [show QaP 2000 = 0 by decide]; exact h0)
def QaW (D : Int) : Int × Int × Int := match QbK (QdB D) 12 0 (D - QaP (QdB D)) with
 | .inl t => t
 | .inr _ => (0, 0, 0)
theorem Qlg {D : Int} (h0 : 0 ≤ D) (hD : D < 36525) : QbK (QdB D) 12 0 (D - QaP (QdB D)) = .inl (QaW D) := by
 have hy := QjJ h0 hD
 obtain ⟨t, ht⟩ := Qrv (QdB D) (D - QaP (QdB D)) (by have := hy.2.2.1; omega) (by have := hy.2.2.2; rw [Qmq _ hy.1] at this; omega)
 unfold QaW
 rw [ht]
theorem QeO {D : Int} (h0 : 0 ≤ D) (hD : D < 36525) : 2000 ≤ (QaW D).1 ∧ (QaW D).1 ≤ 2099 ∧ 1 ≤ (QaW D).2.1 ∧ (QaW D).2.1 ≤ 12 ∧ 1 ≤ (QaW D).2.2 ∧ (QaW D).2.2 ≤ 31 := by
 have hy := QjJ h0 hD
 have h := (QiC (QdB D) 12 0 (D - QaP (QdB D)) (by have := hy.2.2.1; omega)).1 _ (Qlg h0 hD)
 have := QdZ (QdB D) (QaW D).2.1
 obtain ⟨h1, h2, h3, h4, h5⟩ := h
 have := hy.1; have := hy.2.1
 refine ⟨by omega, by omega, by omega, by omega, by omega, by omega⟩
def tri (t : Int × Int × Int) : CV := .tup [.int .i64 t.1, .int .i64 t.2.1, .int .i64 t.2.2]
theorem Qmo (D Y : Int) (jo : CV) (jI : Int) : ∀ (k m : Nat) (rest : Int), m + k = 12 → 0 ≤ rest → rest ≤ 1000 → ∀ t, QbK Y k (m : Int) rest = .inl t →
  Evt fun n => ∀ j, k < j → QdQ lb n j D Y jo jI rest (m : Int) = some (tri t)
 | 0, m, rest, h, h0, h1, t, q => by cases q
 | k + 1, m, rest, h, h0, h1, t, q => by
  have hr := QdZ Y ((m : Int) + 1)
  have hw : IntKind.wrap .i64 ((m : Int) + 1) = (m : Int) + 1 := Qat (by omega) (by omega)
  have hlen := Qeb lb Y ((m : Int) + 1) ⟨by omega, by omega⟩
  by_cases c : rest < lenF Y ((m : Int) + 1)
  ·simp only [QbK, if_pos c] at q
   cases q
   refine hlen.mono fun n hn j hj => ?_
   obtain ⟨j, rfl⟩ : ∃ m, j = m + 1 := ⟨j - 1, by omega⟩
   rw [Qfo, decT (by omega), cond_true, hw, hn]
   simp only [QbH, Qas, QdY, Qgu, Qhr, Qhs, Qew, get0, get1, get2, get3, QfF, cond_true, cond_false, List.length_cons, List.length_nil, Nat.zero_add, Nat.reduceAdd, Nat.reduceBEq, beq_self_eq_true, QcT, QcV]
   rw [decT c, cond_true, Qat (x := rest + 1) (by omega) (by omega)]
   rfl
  ·simp only [QbK, if_neg c] at q
   refine Evt.imp2 hlen (Qmo D Y jo jI k (m + 1) (rest - lenF Y ((m : Int) + 1)) (by omega) (by omega) (by omega) t (by exact_mod_cast q)) fun n hn hi j hj => ?_
   obtain ⟨j, rfl⟩ : ∃ m, j = m + 1 := ⟨j - 1, by omega⟩
   rw [Qfo, decT (by omega), cond_true, hw, hn]
   simp only [QbH, Qas, QdY, Qgu, Qhr, Qhs, Qew, get0, get1, get2, get3, QfF, cond_true, cond_false, List.length_cons, List.length_nil, Nat.zero_add, Nat.reduceAdd, Nat.reduceBEq, beq_self_eq_true, QcT, QcV]
   rw [decF c, cond_false, Qat (x := rest - lenF Y ((m : Int) + 1)) (by omega) (by omega)]
   exact_mod_cast hi j (by omega)
theorem Qni {D : Int} (h0 : 0 ≤ D) (hD : D < 36525) : ∀ (k : Nat) (y : Int), 2000 ≤ y → y + k = 2099 → QaP y ≤ D → Evt fun n => ∀ j, k < j → calendar_Date_L1 lb n j D y = some (tri (QaW D))
 | k, y, h1, h2, h3 => by
  have hf := Qer lb (y + 1) ⟨by omega, by omega⟩
  have hw : IntKind.wrap .i64 (y + 1) = y + 1 := Qat (by omega) (by omega)
  by_cases c : QaP (y + 1) ≤ D
  ·match k, h2 with
   | 0, h2 =>
    exfalso
    have : y = 2099 := by omega
    subst this
    rw [show QaP (2099 + 1) = 36525 by decide] at c
    omega
   | k + 1, h2 =>
    refine Evt.imp2 hf (Qni h0 hD k (y + 1) (by omega) (by omega) c) fun n hn hi j hj => ?_
    obtain ⟨j, rfl⟩ : ∃ m, j = m + 1 := ⟨j - 1, by omega⟩
    rw [Qft, hw, hn]
    simp only [QbH, Qas, QdY, Qgu, Qhr, Qhs, Qew, get0, get1, get2, get3, QfF, cond_true, cond_false, List.length_cons, List.length_nil, Nat.zero_add, Nat.reduceAdd, Nat.reduceBEq, beq_self_eq_true, QcT, QcV]
    rw [decT c, cond_true]
    exact hi j (by omega)
  ·have hY : QkE D y := ⟨h1, by omega, h3, by omega⟩
   have hy : y = QdB D := Qta hY (QjJ h0 hD)
   have hm := Qmo lb D y (.int .i64 (QaP y)) (QaP y) 12 0 (D - QaP y) rfl (by omega) (by have := hY.2.2.2; rw [Qmq y h1] at this; split at this <;> omega) (QaW D) (by rw [hy]; exact Qlg h0 hD)
   refine Evt.imp2 (Evt.imp2 hf (Qer lb y ⟨by omega, by omega⟩) fun n a b => And.intro a b) (hm.and (Evt.ge 13)) fun n hn hi j hj => ?_
   obtain ⟨j, rfl⟩ : ∃ m, j = m + 1 := ⟨j - 1, by omega⟩
   rw [Qft, hw, hn.1]
   simp only [QbH, Qas, QdY, Qgu, Qhr, Qhs, Qew, get0, get1, get2, get3, QfF, cond_true, cond_false, List.length_cons, List.length_nil, Nat.zero_add, Nat.reduceAdd, Nat.reduceBEq, beq_self_eq_true, QcT, QcV]
   rw [decF c, cond_false, Qkt, hn.2]
   simp only [QbH, Qas, QdY, Qgu, Qhr, Qhs, Qew, get0, get1, get2, get3, QfF, cond_true, cond_false, List.length_cons, List.length_nil, Nat.zero_add, Nat.reduceAdd, Nat.reduceBEq, beq_self_eq_true, QcT, QcV]
   rw [Qat (x := D - QaP y) (by omega) (by have : 0 ≤ QaP y := (by unfold QaP; have := Int.tdiv_nonneg (a := y - 2000 + 3) (b := 4) (by omega) (by omega); omega); omega)]
   exact hi.1 n (by omega)
theorem QlR (D : Int) (h0 : 0 ≤ D) (hD : D < 36525) : Ret lb QaA [.int .i64 D] (tri (QaW D)) := by
 refine .top rfl (.eq (fun n => by rw [QmC]) ?_)
 have q0 : 0 ≤ Int.tdiv D 366 := Int.tdiv_nonneg h0 (by decide)
 have q1 : Int.tdiv D 366 ≤ 99 := by rw [Int.tdiv_eq_ediv_of_nonneg h0]; omega
 simp only [decF (show ¬ D < 0 by omega), cond_false, decF (show ¬ D ≥ 36525 by omega), Qat (x := Int.tdiv D 366) (by omega) (by omega), Qat (x := 2000 + Int.tdiv D 366) (by omega) (by omega)]
 obtain ⟨k, hk⟩ := Int.eq_ofNat_of_zero_le (show 0 ≤ 2099 - (2000 + Int.tdiv D 366) by omega)
 refine Evt.diag (Qni lb h0 hD k (2000 + Int.tdiv D 366) (by omega) (by omega) ?_)
 unfold QaP
 rw [Int.tdiv_eq_ediv_of_nonneg h0, Int.tdiv_eq_ediv_of_nonneg (by omega)]
 omega
def twoS (z : Int) : Bs := [UInt8.ofNat (IntKind.wrap .u8 (IntKind.wrap .i64 (48 + IntKind.wrap .i64 (Int.tdiv z 10)))).toNat, UInt8.ofNat (IntKind.wrap .u8 (IntKind.wrap .i64 (48 + Int.tmod z 10))).toNat]
theorem QwP (x : Int) : 0 ≤ IntKind.wrap .u8 x ∧ IntKind.wrap .u8 x < 256 := by
 unfold IntKind.wrap
 simp only [IntKind.bits, IntKind.signed]
 simp
 omega
theorem Qts (x y : Int) : bytesOf [[CV.int .u8 (IntKind.wrap .u8 x)], [CV.int .u8 (IntKind.wrap .u8 y)]] = some [UInt8.ofNat (IntKind.wrap .u8 x).toNat, UInt8.ofNat (IntKind.wrap .u8 y).toNat] := by
 simp only [bytesOf, QwP, and_self, if_true, Option.map_some]
theorem Qcs (z : Int) : Ret lb QbX [.int .i64 z] (.str (twoS z)) :=
 .top rfl (.all fun n => by rw [Qnl, Qts, QbH]; rfl)
def Qcl (D : Int) : Bs := ((((twoS (IntKind.wrap .i64 (Int.tdiv (QaW D).1 100)) ++ twoS (Int.tmod (QaW D).1 100)) ++ [45]) ++ twoS (QaW D).2.1) ++ [45]) ++ twoS (QaW D).2.2
theorem Qg3 (D : Int) (h0 : 0 ≤ D) (hD : D < 36525) : Ret lb QdX [.int .i64 D] (.str (Qcl D)) := by
 refine .top rfl (.eq (fun n => by rw [QlT]) ?_)
 refine .call (QlR lb D h0 hD) ?_
 have hr := QeO h0 hD
 simp only [tri, QbH, Qas, QdY, Qgu, Qhr, Qhs, Qew, get0, get1, get2, get3, QfF, cond_true, cond_false, List.length_cons, List.length_nil, Nat.zero_add, Nat.reduceAdd, Nat.reduceBEq, beq_self_eq_true, QcT, QcV]
 rw [show ((QaW D).1 == 0) = false from beqF (by omega)]
 simp only [cond_false]
 refine .call (Qcs lb _) (.call (Qcs lb _) ?_)
 simp only [QbH, Qas, QdY, Qgu, Qhr, Qhs, Qew, get0, get1, get2, get3, QfF, cond_true, cond_false, List.length_cons, List.length_nil, Nat.zero_add, Nat.reduceAdd, Nat.reduceBEq, beq_self_eq_true, QcT, QcV]
 refine .chk (by simp [twoS]) (.chk (by simp [twoS]) (.call (Qcs lb _) ?_))
 simp only [QbH, Qas, QdY, Qgu, Qhr, Qhs, Qew, get0, get1, get2, get3, QfF, cond_true, cond_false, List.length_cons, List.length_nil, Nat.zero_add, Nat.reduceAdd, Nat.reduceBEq, beq_self_eq_true, QcT, QcV]
 refine .chk (by simp [twoS]) (.chk (by simp [twoS]) (.call (Qcs lb _) ?_))
 simp only [QbH, Qas, QdY, Qgu, Qhr, Qhs, Qew, get0, get1, get2, get3, QfF, cond_true, cond_false, List.length_cons, List.length_nil, Nat.zero_add, Nat.reduceAdd, Nat.reduceBEq, beq_self_eq_true, QcT, QcV]
 exact .chk (by simp [twoS]) (.of rfl)
end Go.Proofs
