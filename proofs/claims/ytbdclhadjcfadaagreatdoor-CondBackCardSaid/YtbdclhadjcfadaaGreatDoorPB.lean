/- Chapter 4: weekdays, there and back. Conditions: none. -/
import Derived.Test.YtbdclhadjcfadaaGreatDoorPA
set_option linter.unusedVariables false
namespace Go.Proofs
open Go.Am
theorem QuK : ∀ d : Fin 128, wkV (-1) 0 (dayS d.val 7) = some (d.val : Int) := by decide +kernel
end Go.Proofs
set_option linter.unusedVariables false
namespace Go.Proofs
open Go.Am
theorem Qnf (y : Int) : ∀ (k m : Nat) (rest : Int) (t : Int × Int × Int), QbK y k (m : Int) rest = .inl t → (m : Int) + 1 ≤ t.2.1 ∧ rest = Qcc y (t.2.1 - 1).toNat - Qcc y m + (t.2.2 - 1)
 | 0, m, rest, t, h => by cases h
 | k + 1, m, rest, t, h => by
  unfold QbK at h
  split at h
  ·cases h
   refine ⟨Int.le_refl _, ?_⟩
   show rest = Qcc y ((m : Int) + 1 - 1).toNat - Qcc y m + (rest + 1 - 1)
   rw [show ((m : Int) + 1 - 1).toNat = m by omega]
   omega
  ·obtain ⟨h1, h2⟩ := Qnf y k (m + 1) (rest - lenF y ((m : Int) + 1)) t h
   have h3 : Qcc y (m + 1) = Qcc y m + lenF y ((m : Int) + 1) := rfl
   refine ⟨by omega, by omega⟩
theorem QrM {D : Int} (h0 : 0 ≤ D) (hD : D < 36525) : Qi1 (QaW D).1 (QaW D).2.1 (QaW D).2.2 ∧ dayN (QaW D).1 (QaW D).2.1 (QaW D).2.2 = D := by
 have hr := QeO h0 hD
 have hy := QjJ h0 hD
 have hi := Qlg h0 hD
 have h := (QiC (QdB D) 12 0 (D - QaP (QdB D)) (by have := hy.2.2.1; omega)).1 _ hi
 obtain ⟨h1, h2, h3, h4, h5⟩ := h
 obtain ⟨_, hv⟩ := Qnf (QdB D) 12 0 (D - QaP (QdB D)) (QaW D) hi
 have hz : Qcc (QdB D) 0 = 0 := rfl
 refine ⟨⟨hr.1, hr.2.1, hr.2.2.1, hr.2.2.2.1, hr.2.2.2.2.1, by rw [h1]; exact h5⟩, ?_⟩
 unfold dayN
 rw [h1]
 omega
end Go.Proofs
set_option linter.unusedVariables false
namespace Go.Proofs
open Go.Am
end Go.Proofs
set_option linter.unusedVariables false
namespace Go.Proofs
open Go.Am
theorem Qus : ∀ z : Fin 100, digV 0 (twoS (z.val : Int)) = some (z.val : Int) := by decide +kernel
theorem QsM : ∀ z : Fin 100, digV 0 (twoS (IntKind.wrap .i64 (Int.tdiv (2000 + (z.val : Int)) 100)) ++ twoS (Int.tmod (2000 + (z.val : Int)) 100)) = some (2000 + (z.val : Int)) := by decide +kernel
theorem QnK {z : Int} (h : 0 ≤ z ∧ z < 100) : digV 0 (twoS z) = some z := by
 obtain ⟨k, rfl⟩ : ∃ k : Nat, z = k := ⟨z.toNat, by omega⟩
 exact Qus ⟨k, by omega⟩
theorem Qry {y : Int} (h : 2000 ≤ y ∧ y ≤ 2099) : digV 0 (twoS (IntKind.wrap .i64 (Int.tdiv y 100)) ++ twoS (Int.tmod y 100)) = some y := by
 obtain ⟨k, rfl⟩ : ∃ k : Nat, y = 2000 + (k : Int) := ⟨(y - 2000).toNat, by omega⟩
 exact QsM ⟨k, by omega⟩
theorem Qm9 {D : Int} (h0 : 0 ≤ D) (hD : D < 36525) : QgN (Qcl D) = .tup [.int .i64 D, .int .i64 0] := by
 obtain ⟨hg, hd⟩ := QrM h0 hD
 have hr := QeO h0 hD
 have a1 : ((Qcl D).take 4).drop 0 = twoS (IntKind.wrap .i64 (Int.tdiv (QaW D).1 100)) ++ twoS (Int.tmod (QaW D).1 100) := rfl
 have a2 : ((Qcl D).take 7).drop 5 = twoS (QaW D).2.1 := rfl
 have a3 : ((Qcl D).take (Qcl D).length).drop 8 = twoS (QaW D).2.2 := rfl
 unfold QgN
 rw [if_pos ⟨Qic D, rfl, rfl⟩, a1, a2, a3, Qry (by omega), QnK (by omega), QnK (by omega)]
 show dayV (QaW D).1 (QaW D).2.1 (QaW D).2.2 = _
 unfold dayV
 rw [if_pos hg, hd]
end Go.Proofs
set_option linter.unusedVariables false
namespace Go.Proofs
open Go.Am
theorem Qtk : ∀ z : Fin 100, (47 : UInt8) ∉ twoS (z.val : Int) := by decide +kernel
theorem QvT : ∀ z : Fin 100, (47 : UInt8) ∉ twoS (IntKind.wrap .i64 (Int.tdiv (2000 + (z.val : Int)) 100)) ++ twoS (Int.tmod (2000 + (z.val : Int)) 100) := by decide +kernel
theorem Qw3 : ∀ d : Fin 128, (47 : UInt8) ∉ dayS d.val 7 := by decide +kernel
theorem Qrg {D : Int} (h0 : 0 ≤ D) (hD : D < 36525) : (47 : UInt8) ∉ Qcl D := by
 have hr := QeO h0 hD
 obtain ⟨y, hy⟩ : ∃ k : Nat, (QaW D).1 = 2000 + (k : Int) := ⟨((QaW D).1 - 2000).toNat, by omega⟩
 obtain ⟨m, hm⟩ : ∃ k : Nat, (QaW D).2.1 = k := ⟨((QaW D).2.1).toNat, by omega⟩
 obtain ⟨d, hd⟩ : ∃ k : Nat, (QaW D).2.2 = k := ⟨((QaW D).2.2).toNat, by omega⟩
 have h1 := QvT ⟨y, by omega⟩
 have h2 := Qtk ⟨m, by omega⟩
 have h3 := Qtk ⟨d, by omega⟩
 simp only at h1 h2 h3
 unfold Qcl
 rw [hy, hm, hd]
 simp only [List.mem_append, not_or] at h1 ⊢
 exact ⟨⟨⟨⟨h1, by decide⟩, h2⟩, by decide⟩, h3⟩
theorem QkL {c : UInt8} : ∀ {a : Bs}, c ∉ a → QaG c a = [a]
 | [], _ => rfl
 | x :: a, h => by
  have h1 : x ≠ c := fun e => h (by simp [e])
  unfold QaG
  rw [if_neg h1, QkL (fun e => h (List.mem_cons_of_mem _ e))]
theorem Qis {c : UInt8} {r : Bs} : ∀ {a : Bs}, c ∉ a → QaG c (a ++ c :: r) = a :: QaG c r
 | [], _ => by simp [QaG]
 | x :: a, h => by
  have h1 : x ≠ c := fun e => h (by simp [e])
  have h2 : QaG c (x :: (a ++ c :: r)) = if x = c then [] :: QaG c (a ++ c :: r) else match QaG c (a ++ c :: r) with
   | w :: ws => (x :: w) :: ws
   | [] => [[x]] := rfl
  rw [List.cons_append, h2, if_neg h1, Qis (fun e => h (List.mem_cons_of_mem _ e))]
theorem Qt8 {fr to days : Int} (h : perE fr to days = 0) : perP (perS fr to days) = .tup [.agg [.int .i64 fr, .int .i64 to, .int .i64 days], .int .i64 0] := by
 obtain ⟨b1, b2, b3, b4, b5⟩ := Qoo h
 obtain ⟨d, rfl⟩ : ∃ d : Nat, days = d := ⟨days.toNat, by omega⟩
 have hs : QaG 47 (perS fr to (d : Int)) = [Qcl fr, Qcl to, dayS d 7] := by
  unfold perS
  rw [if_neg (fun e => e h), Int.toNat_natCast, show ((Qcl fr ++ [47]) ++ Qcl to ++ [47]) ++ dayS d 7 = Qcl fr ++ 47 :: (Qcl to ++ 47 :: dayS d 7) by simp, Qis (Qrg (by omega) (by omega)), Qis (Qrg (by omega) (by omega)), QkL (Qw3 ⟨d, by omega⟩)]
 have e1 : pD (Qcl fr) = (fr, 0) := by unfold pD; rw [Qm9 (by omega) (by omega)]
 have e2 : pD (Qcl to) = (to, 0) := by unfold pD; rw [Qm9 (by omega) (by omega)]
 have e3 : wkR (dayS d 7) = some (d : Int) := by
  have h1 := QuK ⟨d, by omega⟩
  unfold wkR
  by_cases hc : dayS d 7 = []
  ·simp only [hc] at h1
   have : (0 : Int) = (d : Int) := by simpa [wkV] using h1
   omega
  ·rw [if_neg hc]
   exact h1
 unfold perP
 rw [hs]
 simp only
 rw [e1, e2, e3]
 simp only
 rw [if_neg (by simp), if_neg (by simp)]
 unfold finV
 simp only
 rw [if_neg (fun e => e h)]
end Go.Proofs
