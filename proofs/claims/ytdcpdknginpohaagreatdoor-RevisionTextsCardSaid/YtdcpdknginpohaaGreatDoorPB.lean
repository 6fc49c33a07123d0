/- Chapter 4: weekdays, there and back. Conditions: none. -/
import Derived.Test.YtdcpdknginpohaaGreatDoorPA
import Derived.Test.YtdcpdknginpohaaGreatDoorGs
import Derived.Test.YtdcpdknginpohaaGreatDoorIt
set_option linter.unusedVariables false
namespace Go.Proofs
open Go.Am
def dayR (w : Nat) : Nat → Nat → Bs
 | _, 0 => []
 | k, n + 1 => (if Qff w k then [UInt8.ofNat (49 + k)] else []) ++ dayR w (k + 1) n
theorem QyV : ∀ d : Fin 128, dayS d.val 7 = dayR d.val 0 7 := by decide +kernel
theorem Qxb : ∀ d : Fin 128, wkV (-1) 0 (dayS d.val 7) = some (d.val : Int) := by decide +kernel
theorem Qxu : ∀ (k : Fin 8) (d : Fin 128), d.val < 2 ^ k.val → dayR d.val k.val (7 - k.val) = [] := by decide +kernel
theorem Qwt : ∀ (j : Fin 7) (k : Fin 8) (w : Fin 128), k.val ≤ j.val → 2 ^ j.val ≤ w.val % 2 ^ (j.val + 1) → w.val % 2 ^ (j.val + 1) - 2 ^ j.val < 2 ^ k.val →
  dayR w.val k.val (7 - k.val) = UInt8.ofNat (49 + j.val) :: dayR w.val (j.val + 1) (7 - (j.val + 1)) ∧ w.val % 2 ^ k.val = w.val % 2 ^ (j.val + 1) - 2 ^ j.val := by decide +kernel
theorem Qws : ∀ (t : Bs) (k d : Nat) (w : Int), k ≤ 7 → d < 2 ^ k → wkV ((k : Int) - 1) (d : Int) t = some w → ∃ v : Nat, w = v ∧ v < 128 ∧ v % 2 ^ k = d ∧ t = dayR v k (7 - k)
 | [], k, d, w, hk, hd, h => by
  obtain rfl : (d : Int) = w := by simpa [wkV] using h
  have h1 : d < 128 := Nat.lt_of_lt_of_le hd (Nat.pow_le_pow_right (n := 2) (by decide) hk)
  exact ⟨d, rfl, h1, Nat.mod_eq_of_lt hd, (Qxu ⟨k, by omega⟩ ⟨d, h1⟩ hd).symm⟩
 | c :: t, k, d, w, hk, hd, h => by
  unfold wkV at h
  by_cases hc : (c.toNat : Int) - 49 ≤ (k : Int) - 1 ∨ (c.toNat : Int) - 49 > 6
  ·rw [if_pos hc] at h
   cases h
  rw [if_neg hc] at h
  obtain ⟨j, hj⟩ : ∃ j : Nat, (c.toNat : Int) - 49 = j := ⟨((c.toNat : Int) - 49).toNat, by omega⟩
  have hp : 2 ^ k ≤ 2 ^ j := Nat.pow_le_pow_right (by decide) (by omega)
  have hs : 2 ^ (j + 1) = 2 ^ j + 2 ^ j := by rw [Nat.pow_succ]; omega
  rw [hj, Int.toNat_natCast, show (j : Int) = ((j + 1 : Nat) : Int) - 1 by omega, show (d : Int) + 2 ^ j = ((d + 2 ^ j : Nat) : Int) by simp] at h
  obtain ⟨v, h1, h2, h3, h4⟩ := Qws t (j + 1) (d + 2 ^ j) w (by omega) (by omega) h
  obtain ⟨e1, e2⟩ := Qwt ⟨j, by omega⟩ ⟨k, by omega⟩ ⟨v, h2⟩ (by show k ≤ j; omega) (by show 2 ^ j ≤ v % 2 ^ (j + 1); omega) (by show v % 2 ^ (j + 1) - 2 ^ j < 2 ^ k; omega)
  simp only at e1 e2
  refine ⟨v, h1, h2, by omega, ?_⟩
  rw [e1, ← h4]
  congr 1
  refine QbQ ?_
  have : c.toNat = 49 + j := by omega
  rw [UInt8.toNat_ofNat', this]
  omega
theorem Qyk {s : Bs} {w : Int} (h : wkV (-1) 0 s = some w) : ∃ v : Nat, w = v ∧ v < 128 ∧ s = dayS v 7 := by
 obtain ⟨v, h1, h2, _, h4⟩ := Qws s 0 0 w (by omega) (by decide) h
 exact ⟨v, h1, h2, by rw [h4, QyV ⟨v, h2⟩]⟩
end Go.Proofs
set_option linter.unusedVariables false
namespace Go.Proofs
open Go.Am
theorem Qpa (y : Int) : ∀ (k m : Nat) (rest : Int) (t : Int × Int × Int), Qbg y k (m : Int) rest = .inl t → (m : Int) + 1 ≤ t.2.1 ∧ rest = Qax y (t.2.1 - 1).toNat - Qax y m + (t.2.2 - 1)
 | 0, m, rest, t, h => by cases h
 | k + 1, m, rest, t, h => by
  unfold Qbg at h
  split at h
  ·cases h
   refine ⟨Int.le_refl _, ?_⟩
   show rest = Qax y ((m : Int) + 1 - 1).toNat - Qax y m + (rest + 1 - 1)
   rw [show ((m : Int) + 1 - 1).toNat = m by omega]
   omega
  ·obtain ⟨h1, h2⟩ := Qpa y k (m + 1) (rest - lenF y ((m : Int) + 1)) t h
   have h3 : Qax y (m + 1) = Qax y m + lenF y ((m : Int) + 1) := rfl
   refine ⟨by omega, by omega⟩
theorem Qt7 {D : Int} (h0 : 0 ≤ D) (hD : D < 36525) : Qhc (Qa4 D).1 (Qa4 D).2.1 (Qa4 D).2.2 ∧ dayN (Qa4 D).1 (Qa4 D).2.1 (Qa4 D).2.2 = D := by
 have hr := QfE h0 hD
 have hy := Qhe h0 hD
 have hi := QhO h0 hD
 have h := (Qj7 (Qdx D) 12 0 (D - Qaq (Qdx D)) (by have := hy.2.2.1; omega)).1 _ hi
 obtain ⟨h1, h2, h3, h4, h5⟩ := h
 obtain ⟨_, hv⟩ := Qpa (Qdx D) 12 0 (D - Qaq (Qdx D)) (Qa4 D) hi
 have hz : Qax (Qdx D) 0 = 0 := rfl
 refine ⟨⟨hr.1, hr.2.1, hr.2.2.1, hr.2.2.2.1, hr.2.2.2.2.1, by rw [h1]; exact h5⟩, ?_⟩
 unfold dayN
 rw [h1]
 omega
end Go.Proofs
set_option linter.unusedVariables false
namespace Go.Proofs
open Go.Am
theorem Qkh (y : Int) (j : Nat) : ∀ r, Qax y j ≤ Qax y (j + r)
 | 0 => Int.le_refl _
 | r + 1 => by
  have h1 := Qkh y j r
  have h2 := QbH y (((j + r : Nat) : Int) + 1)
  have h3 : Qax y (j + (r + 1)) = Qax y (j + r) + lenF y (((j + r : Nat) : Int) + 1) := rfl
  omega
theorem QqJ (y : Int) (n : Nat) (d : Int) (hd : 1 ≤ d ∧ d ≤ lenF y ((n : Int) + 1)) : ∀ (k j : Nat), j ≤ n → n < j + k → Qbg y k (j : Int) (Qax y n - Qax y j + (d - 1)) = .inl (y, (n : Int) + 1, d)
 | 0, j, h1, h2 => by omega
 | k + 1, j, h1, h2 => by
  unfold Qbg
  by_cases e : j = n
  ·subst e
   rw [if_pos (by omega), show Qax y j - Qax y j + (d - 1) + 1 = d by omega]
  ·have h3 : Qax y (j + 1) = Qax y j + lenF y ((j : Int) + 1) := rfl
   have h4 := Qkh y (j + 1) (n - (j + 1))
   rw [show j + 1 + (n - (j + 1)) = n by omega] at h4
   rw [if_neg (by omega), show Qax y n - Qax y j + (d - 1) - lenF y ((j : Int) + 1) = Qax y n - Qax y (j + 1) + (d - 1) by omega]
   exact QqJ y n d hd k (j + 1) (by omega) (by omega)
theorem QjN {y : Int} (h : 2000 ≤ y) : ∀ r : Nat, Qaq y ≤ Qaq (y + r)
 | 0 => by simp
 | r + 1 => by
  have h1 := QjN h r
  have h2 := QeD (y + r) (by omega)
  rw [show y + ((r + 1 : Nat) : Int) = y + (r : Int) + 1 by omega, h2]
  split <;> omega
theorem Qt5 {D y z : Int} (hy : 2000 ≤ y) (hz : 2000 ≤ z) (h1 : Qaq y ≤ D) (h2 : D < Qaq (y + 1)) (h3 : Qaq z ≤ D) (h4 : D < Qaq (z + 1)) : y = z := by
 rcases Int.lt_trichotomy y z with h | h | h
 ·have := QjN (y := y + 1) (by omega) (z - (y + 1)).toNat
  rw [show y + 1 + ((z - (y + 1)).toNat : Int) = z by omega] at this
  omega
 ·exact h
 ·have := QjN (y := z + 1) (by omega) (y - (z + 1)).toNat
  rw [show z + 1 + ((y - (z + 1)).toNat : Int) = y by omega] at this
  omega
theorem QtQ {y m d : Int} (h : Qhc y m d) : 0 ≤ dayN y m d ∧ dayN y m d < 36525 ∧ Qa4 (dayN y m d) = (y, m, d) := by
 obtain ⟨h1, h2, h3, h4, h5, h6⟩ := h
 obtain ⟨n, rfl⟩ : ∃ n : Nat, m = (n : Int) + 1 := ⟨(m - 1).toNat, by omega⟩
 have hm := Qkh y (n + 1) (12 - (n + 1))
 rw [show n + 1 + (12 - (n + 1)) = 12 by omega] at hm
 have hm1 : Qax y (n + 1) = Qax y n + lenF y ((n : Int) + 1) := rfl
 have hm0 := (Qe1 y n).1
 have hs := QeD y h1
 rw [← Qrg] at hs
 have hf := Qgf (y := y) (by omega)
 have hN : dayN y ((n : Int) + 1) d = Qaq y + (d - 1) + Qax y n := by
  unfold dayN
  rw [show ((n : Int) + 1 - 1).toNat = n by omega]
 have hlt : dayN y ((n : Int) + 1) d < Qaq (y + 1) := by rw [hs, hN]; omega
 have hend := QjN (y := y + 1) (by omega) (2100 - (y + 1)).toNat
 rw [show y + 1 + ((2100 - (y + 1)).toNat : Int) = 2100 by omega, show Qaq 2100 = 36525 by decide] at hend
 have h0 : 0 ≤ dayN y ((n : Int) + 1) d := by rw [hN]; omega
 have hD : dayN y ((n : Int) + 1) d < 36525 := by omega
 have hy := Qhe h0 hD
 have hyy : Qdx (dayN y ((n : Int) + 1) d) = y := Qt5 hy.1 h1 hy.2.2.1 hy.2.2.2 (by rw [hN]; omega) hlt
 refine ⟨h0, hD, ?_⟩
 have hi := QhO h0 hD
 have ho := QqJ y n d ⟨h5, h6⟩ 12 0 (by omega) (by omega)
 rw [hyy, hN, show Qaq y + (d - 1) + Qax y n - Qaq y = Qax y n - Qax y 0 + (d - 1) by rw [show Qax y 0 = 0 from rfl]; omega] at hi
 rw [show ((0 : Nat) : Int) = 0 from rfl] at ho
 rw [ho] at hi
 rw [hN]
 exact (Sum.inl.inj hi).symm
end Go.Proofs
set_option linter.unusedVariables false
namespace Go.Proofs
open Go.Am
theorem Qwu : ∀ z : Fin 100, digV 0 (twoS (z.val : Int)) = some (z.val : Int) := by decide +kernel
theorem Qvg : ∀ z : Fin 100, digV 0 (twoS (IntKind.wrap .i64 (Int.tdiv (2000 + (z.val : Int)) 100)) ++ twoS (Int.tmod (2000 + (z.val : Int)) 100)) = some (2000 + (z.val : Int)) := by decide +kernel
theorem Qpd {z : Int} (h : 0 ≤ z ∧ z < 100) : digV 0 (twoS z) = some z := by
 obtain ⟨k, rfl⟩ : ∃ k : Nat, z = k := ⟨z.toNat, by omega⟩
 exact Qwu ⟨k, by omega⟩
theorem QtK {y : Int} (h : 2000 ≤ y ∧ y ≤ 2099) : digV 0 (twoS (IntKind.wrap .i64 (Int.tdiv y 100)) ++ twoS (Int.tmod y 100)) = some y := by
 obtain ⟨k, rfl⟩ : ∃ k : Nat, y = 2000 + (k : Int) := ⟨(y - 2000).toNat, by omega⟩
 exact Qvg ⟨k, by omega⟩
theorem QoN {D : Int} (h0 : 0 ≤ D) (hD : D < 36525) : QdJ (QbS D) = .tup [.int .i64 D, .int .i64 0] := by
 obtain ⟨hg, hd⟩ := Qt7 h0 hD
 have hr := QfE h0 hD
 have a1 : ((QbS D).take 4).drop 0 = twoS (IntKind.wrap .i64 (Int.tdiv (Qa4 D).1 100)) ++ twoS (Int.tmod (Qa4 D).1 100) := rfl
 have a2 : ((QbS D).take 7).drop 5 = twoS (Qa4 D).2.1 := rfl
 have a3 : ((QbS D).take (QbS D).length).drop 8 = twoS (Qa4 D).2.2 := rfl
 unfold QdJ
 rw [if_pos ⟨QeR D, rfl, rfl⟩, a1, a2, a3, QtK (by omega), Qpd (by omega), Qpd (by omega)]
 show dayV (Qa4 D).1 (Qa4 D).2.1 (Qa4 D).2.2 = _
 unfold dayV
 rw [if_pos hg, hd]
end Go.Proofs
set_option linter.unusedVariables false
namespace Go.Proofs
open Go.Am
theorem Qv2 : ∀ z : Fin 100, (47 : UInt8) ∉ twoS (z.val : Int) := by decide +kernel
theorem Qyg : ∀ z : Fin 100, (47 : UInt8) ∉ twoS (IntKind.wrap .i64 (Int.tdiv (2000 + (z.val : Int)) 100)) ++ twoS (Int.tmod (2000 + (z.val : Int)) 100) := by decide +kernel
theorem QyC : ∀ d : Fin 128, (47 : UInt8) ∉ dayS d.val 7 := by decide +kernel
theorem Qsh {D : Int} (h0 : 0 ≤ D) (hD : D < 36525) : (47 : UInt8) ∉ QbS D := by
 have hr := QfE h0 hD
 obtain ⟨y, hy⟩ : ∃ k : Nat, (Qa4 D).1 = 2000 + (k : Int) := ⟨((Qa4 D).1 - 2000).toNat, by omega⟩
 obtain ⟨m, hm⟩ : ∃ k : Nat, (Qa4 D).2.1 = k := ⟨((Qa4 D).2.1).toNat, by omega⟩
 obtain ⟨d, hd⟩ : ∃ k : Nat, (Qa4 D).2.2 = k := ⟨((Qa4 D).2.2).toNat, by omega⟩
 have h1 := Qyg ⟨y, by omega⟩
 have h2 := Qv2 ⟨m, by omega⟩
 have h3 := Qv2 ⟨d, by omega⟩
 simp only at h1 h2 h3
 unfold QbS
 rw [hy, hm, hd]
 simp only [List.mem_append, not_or] at h1 ⊢
 exact ⟨⟨⟨⟨h1, by decide⟩, h2⟩, by decide⟩, h3⟩
theorem QqV {c : UInt8} : ∀ {a : Bs}, c ∉ a → QaN c a = [a]
 | [], _ => rfl
 | x :: a, h => by
  have h1 : x ≠ c := fun e => h (by simp [e])
  unfold QaN
  rw [if_neg h1, QqV (fun e => h (List.mem_cons_of_mem _ e))]
theorem QmQ {c : UInt8} {r : Bs} : ∀ {a : Bs}, c ∉ a → QaN c (a ++ c :: r) = a :: QaN c r
 | [], _ => by simp [QaN]
 | x :: a, h => by
  have h1 : x ≠ c := fun e => h (by simp [e])
  have h2 : QaN c (x :: (a ++ c :: r)) = if x = c then [] :: QaN c (a ++ c :: r) else match QaN c (a ++ c :: r) with
   | w :: ws => (x :: w) :: ws
   | [] => [[x]] := rfl
  rw [List.cons_append, h2, if_neg h1, QmQ (fun e => h (List.mem_cons_of_mem _ e))]
theorem Qwn {fr to days : Int} (h : perE fr to days = 0) : perP (perS fr to days) = .tup [.agg [.int .i64 fr, .int .i64 to, .int .i64 days], .int .i64 0] := by
 obtain ⟨b1, b2, b3, b4, b5⟩ := Qqg h
 obtain ⟨d, rfl⟩ : ∃ d : Nat, days = d := ⟨days.toNat, by omega⟩
 have hs : QaN 47 (perS fr to (d : Int)) = [QbS fr, QbS to, dayS d 7] := by
  unfold perS
  rw [if_neg (fun e => e h), Int.toNat_natCast, show ((QbS fr ++ [47]) ++ QbS to ++ [47]) ++ dayS d 7 = QbS fr ++ 47 :: (QbS to ++ 47 :: dayS d 7) by simp, QmQ (Qsh (by omega) (by omega)), QmQ (Qsh (by omega) (by omega)), QqV (QyC ⟨d, by omega⟩)]
 have e1 : pD (QbS fr) = (fr, 0) := by unfold pD; rw [QoN (by omega) (by omega)]
 have e2 : pD (QbS to) = (to, 0) := by unfold pD; rw [QoN (by omega) (by omega)]
 have e3 : wkR (dayS d 7) = some (d : Int) := by
  have h1 := Qxb ⟨d, by omega⟩
  unfold wkR
  by_cases hc : dayS d 7 = []
  ·simp only [hc] at h1
   have : (0 : Int) = (d : Int) := by simpa [wkV] using h1
   omega
  ·rw [if_neg hc]
   exact h1
 unfold perP
 rw [hs]
 simp only
 rw [e1, e2, e3]
 simp only
 rw [if_neg (by simp), if_neg (by simp)]
 unfold finV
 simp only
 rw [if_neg (fun e => e h)]
end Go.Proofs
set_option linter.unusedVariables false
namespace Go.Proofs
open Go.Am
def Qin (q : Nat) (r : List Bs) : List (List CV) := (Qg4 q (scv r)).map fun c => [CV.list false c]
theorem Qxj (b : Bool) (r : List Bs) (h : r.length ≤ 10000000) : itChunk [[.list b (scv r)], [.int .i64 5]] = some (Qin (scv r).length r) := by
 show (bif decide ((5 : Int) = 5) && decide ((scv r).length ≤ 10000000) && (scv r).all (·.length == 1) then some (Qin (scv r).length r) else none) = _
 have h1 : (scv r).all (fun x => x.length == 1) = true := by simp [scv]
 rw [h1, show decide ((scv r).length ≤ 10000000) = true from decT (by rw [QaS]; exact h)]
 rfl
theorem Qv7 (q : Nat) (r : List Bs) : (Qin q r).all (fun x => x.length == 1) = true := by simp [Qin]
theorem QvP (q : Nat) : Qin q [] = [] := by cases q <;> rfl
theorem Qu8 (q : Nat) (a b c d e : Bs) (r : List Bs) : Qin (q + 1) (a :: b :: c :: d :: e :: r) = [CV.list false (scv [a, b, c, d, e])] :: Qin q r := rfl
variable (lb : Nat)
theorem Qt3 (s : Bs) (I : List (List CV)) (x4 r2 x6 : CV) (c12 : List CV) (wL : Bool × List (List CV)) (car : Bs) (num fr to days : Int) (n : Nat) : ∀ (m : Nat) (r : List Bs) (L : List (List CV)) (O : List Lg) (q : Nat), r.length = 5 * m → r.length ≤ q → I = L ++ Qin q r →
  O.length + m ≤ 10000000 → (∀ x ∈ r, C lb n Qb2 [.str x] = some (.tup [.int .i64 (numB x).1, .int .i64 (numB x).2])) →
  (∀ l, QbR r = .ok l → C lb n QaT [flcv (mkF car num fr to days (O ++ l))] = some (.int .i64 (wrE (mkF car num fr to days (O ++ l))))) → ∀ (v : CV) k, m < k →
  flight_Parse_L1 lb n k s x4 r2 x6 c12 (.str car) wL I (.int .i64 num) (.int .i64 fr) (.int .i64 to) (.int .i64 days) L.length v O.isEmpty (O.map lgcv) = some (QfJ car num fr to days O r) := by
 intro m
 induction m with
 | zero =>
  intro r L O q hr hq hI hO h1 hP v k hk
  obtain ⟨k, rfl⟩ : ∃ m, k = m + 1 := ⟨k - 1, by omega⟩
  obtain rfl : r = [] := List.length_eq_zero_iff.1 (by omega)
  rw [QvP, List.append_nil] at hI
  subst hI
  rw [QgI]
  refine stF (decF (by omega)) ?_
  rw [QmD]
  have h2 := hP [] rfl
  rw [List.append_nil] at h2
  unfold QfJ
  simp only [QbR, List.append_nil]
  unfold endF
  by_cases hE : wrE (mkF car num fr to days O) ≠ 0
  ·rw [if_pos hE]
   exact stO _ h2 (stC rfl (stO _ (Qae ..) (stT (bneT hE) (stC rfl rfl))))
  ·rw [if_neg hE]
   exact stO _ h2 (stC rfl (stO _ (Qae ..) (stF (bneF (Classical.byContradiction hE)) rfl)))
 | succ m ih =>
  intro r L O q hr hq hI hO h1 hP v k hk
  obtain ⟨k, rfl⟩ : ∃ m, k = m + 1 := ⟨k - 1, by omega⟩
  match r, hr, hq, hI, h1, hP with
  | a :: b :: c :: d :: e :: r, hr, hq, hI, h1, hP =>
   obtain ⟨q, rfl⟩ : ∃ p, q = p + 1 := ⟨q - 1, by simp at hq; omega⟩
   rw [Qu8] at hI
   have hget : I[L.length]? = some [CV.list false (scv [a, b, c, d, e])] := by rw [hI]; simp
   have hlt : L.length < I.length := by rw [hI]; simp
   have hc := h1 c (by simp)
   have hd := h1 d (by simp)
   rw [QgI]
   refine stT (decT hlt) (stO _ hget (stO _ rfl (stO _ rfl (stO [.str a] rfl (stC rfl (stO _ rfl (stO _ rfl (stO [.str b] rfl (stC rfl (stO _ rfl (stO _ rfl (stO [.str e] rfl (stC rfl (stO _ rfl (stC rfl (stC rfl (stC rfl
    (stO _ rfl (stO [.str c] rfl (stC rfl (stO _ rfl (stO _ hc (stO _ rfl (stO _ rfl (stO _ rfl (stO _ rfl (stC rfl (stC rfl (stO _ (Qae ..) ?_)))))))))))))))))))))))))))))
   unfold QfJ
   unfold QbR at hP ⊢
   by_cases q1 : (numB c).2 ≠ 0
   ·rw [if_pos q1]
    exact stT (bneT q1) (stC rfl rfl)
   rw [if_neg q1] at hP ⊢
   refine stF (bneF (Classical.byContradiction q1)) (stO _ rfl (stO [.str d] rfl (stC rfl (stO _ rfl (stO _ hd (stO _ rfl (stO _ rfl (stO _ rfl (stO _ rfl (stC rfl (stC rfl (stO _ (Qae ..) ?_))))))))))))
   by_cases q2 : (numB d).2 ≠ 0
   ·rw [if_pos q2]
    exact stT (bneT q2) (stC rfl rfl)
   rw [if_neg q2] at hP ⊢
   refine stF (bneF (Classical.byContradiction q2)) (stC (Qbf (by rw [List.length_map]; omega)) ?_)
   have h3 := ih r (L ++ [[CV.list false (scv [a, b, c, d, e])]]) (O ++ [⟨a, b, (numB c).1, (numB d).1, e⟩]) q (by simp at hr; omega) (by simp at hq; omega) (by rw [hI]; simp) (by simp; omega) (fun x hx => h1 x (by simp [hx])) (fun l hl => by
    have := hP (⟨a, b, (numB c).1, (numB d).1, e⟩ :: l) (by rw [hl])
    rw [List.append_assoc]
    exact this) (.int .i64 (numB d).2) k (by omega)
   rw [QjM O.isEmpty O ⟨a, b, (numB c).1, (numB d).1, e⟩, show L.length + 1 = (L ++ [[CV.list false (scv [a, b, c, d, e])]]).length by simp]
   rw [List.map_append] at h3
   refine Eq.trans h3 ?_
   unfold QfJ
   cases hl : QbR r with
   | error x => rfl
   | ok l =>
    simp only
    rw [List.append_assoc]
    rfl
theorem Qox (s : Bs) (hs : s.length ≤ 10000000) : Ret (lb + 1) Qbd [.str s] (Qe2 s) := by
 refine .top rfl (.eq (fun n => by rw [Qo5]) ?_)
 have e0 := QkN (lb + 1) s (by omega)
 unfold Qe2
 cases hw : Qdd s with
 | none =>
  rw [hw] at e0
  exact e0.mono fun n a0 => stO _ a0 (stO _ rfl (stO _ rfl (stO _ rfl (stO _ rfl (stC rfl (stO _ (Qae ..) (stT rfl (stC rfl rfl))))))))
 | some w =>
  rw [hw] at e0
  simp only
  have hj := Qev hw
  obtain ⟨m1, m2⟩ := QhC (l := w)
  rw [← hj] at m1 m2
  by_cases q1 : w.length < 8
  ·rw [if_pos (Or.inl q1)]
   exact e0.mono fun n a0 => stO _ a0 (stO _ rfl (stO _ rfl (stO _ rfl (stO _ rfl (stC rfl (stO _ (Qae ..) (stF rfl (stO _ rfl (stT (decT (by show ((scv w).length : Int) < 8; rw [QaS]; omega)) rfl)))))))))
  have hmod : Int.tmod ((scv w).length : Int) 5 = ((w.length % 5 : Nat) : Int) := by
   rw [QaS, Int.tmod_eq_emod_of_nonneg (by omega)]
   omega
  by_cases q2 : w.length % 5 ≠ 3
  ·rw [if_pos (Or.inr q2)]
   exact e0.mono fun n a0 => stO _ a0 (stO _ rfl (stO _ rfl (stO _ rfl (stO _ rfl (stC rfl (stO _ (Qae ..) (stF rfl (stO _ rfl (stF (decF (by show ¬ ((scv w).length : Int) < 8; rw [QaS]; omega)) (stO _ rfl (stT (bneT (by show Int.tmod ((scv w).length : Int) 5 ≠ 3; rw [hmod]; omega)) rfl)))))))))))
  rw [if_neg (fun e => e.elim q1 q2)]
  obtain ⟨car, nu, pe, r, rfl⟩ : ∃ car nu pe r, w = car :: nu :: pe :: r := by
   match w, q1 with
   | car :: nu :: pe :: r, _ => exact ⟨car, nu, pe, r, rfl⟩
   | [], q => exact absurd (by decide) q
   | [_], q => exact absurd (by show 1 < 8; decide) q
   | [_, _], q => exact absurd (by show 2 < 8; decide) q
  ·have m3 : r.length + 3 ≤ s.length + 1 := by simpa using m2
   have l1 := m1 car (by simp)
   have l2 := m1 nu (by simp)
   have l3 := m1 pe (by simp)
   have e1 := QeO lb nu (by omega)
   have e2 := Qi5 (lb + 1) pe (by omega)
   rw [QiE] at e2
   have e1 : Ret (lb + 1) Qb2 [.str nu] (.tup [.int .i64 (numB nu).1, .int .i64 (numB nu).2]) := e1
   rw [Qhr]
   by_cases q3 : (numB nu).2 ≠ 0
   ·rw [if_pos q3]
    exact Evt.imp2 e0 e1 fun n a0 a1 => stO _ a0 (stO _ rfl (stO _ rfl (stO _ rfl (stO _ rfl (stC rfl (stO _ (Qae ..) (stF rfl (stO _ rfl (stF (decF (by show ¬ ((scv (car :: nu :: pe :: r)).length : Int) < 8; rw [QaS]; omega)) (stO _ rfl (stF (bneF (by show Int.tmod ((scv (car :: nu :: pe :: r)).length : Int) 5 = 3; rw [hmod]; omega)) (stO _ rfl (stO [.str car] rfl (stC rfl (stO _ rfl (stC rfl (stO _ rfl (stO [.str nu] rfl (stC rfl (stO _ rfl (stO _ a1 (stO _ rfl (stO _ rfl (stO _ rfl (stO _ rfl (stC rfl (stC rfl (stO _ (Qae ..) (stT (bneT q3) (stC rfl rfl))))))))))))))))))))))))))))))
   rw [if_neg q3]
   by_cases q4 : (pP pe).2 ≠ 0
   ·rw [if_pos q4]
    exact Evt.imp2 e0 (Evt.and e1 e2) fun n a0 ⟨a1, a2⟩ => stO _ a0 (stO _ rfl (stO _ rfl (stO _ rfl (stO _ rfl (stC rfl (stO _ (Qae ..) (stF rfl (stO _ rfl (stF (decF (by show ¬ ((scv (car :: nu :: pe :: r)).length : Int) < 8; rw [QaS]; omega)) (stO _ rfl (stF (bneF (by show Int.tmod ((scv (car :: nu :: pe :: r)).length : Int) 5 = 3; rw [hmod]; omega)) (stO _ rfl (stO [.str car] rfl (stC rfl (stO _ rfl (stC rfl (stO _ rfl (stO [.str nu] rfl (stC rfl (stO _ rfl (stO _ a1 (stO _ rfl (stO _ rfl (stO _ rfl (stO _ rfl (stC rfl (stC rfl (stO _ (Qae ..) (stF (bneF (Classical.byContradiction q3)) (stO _ rfl (stO [.str pe] rfl (stC rfl (stO _ rfl (stO _ a2 (stO _ rfl (stO _ rfl (stO _ rfl (stO _ rfl (stO _ rfl (stC rfl (stO _ rfl (stO _ rfl (stO _ rfl (stC rfl (stO _ (Qae ..) (stT (bneT q4) (stC rfl rfl)))))))))))))))))))))))))))))))))))))))))))))))
   rw [if_neg q4]
   have e3 : Evt fun n => ∀ x ∈ r, C (lb + 1) n Qb2 [.str x] = some (.tup [.int .i64 (numB x).1, .int .i64 (numB x).2]) := Evt.fin _ fun x hx => QeO lb x (by have := m1 x (by simp [hx]); omega)
   have e4 : Evt fun n => ∀ l, QbR r = .ok l → C (lb + 1) n QaT [flcv (mkF car (numB nu).1 (pP pe).1.1 (pP pe).1.2.1 (pP pe).1.2.2 ([] ++ l))] = some (.int .i64 (wrE (mkF car (numB nu).1 (pP pe).1.1 (pP pe).1.2.1 (pP pe).1.2.2 ([] ++ l)))) := by
    cases hl : QbR r with
    | error x => exact .all fun n l h => by cases h
    | ok l =>
     have hm := Qm8 (r.length / 5) r l s.length (by simp at q2; omega) (fun w hw => m1 w (by simp [hw])) hl
     refine (QhK (lb + 1) (mkF car (numB nu).1 (pP pe).1.1 (pP pe).1.2.1 (pP pe).1.2.2 l) ⟨by show car.length ≤ _; omega, fun x hx => by have := hm x hx; omega⟩).mono fun n h l' e => ?_
     simp only [Except.ok.injEq] at e
     subst e
     exact h
   have hcut : ((scv (car :: nu :: pe :: r)).take (((scv (car :: nu :: pe :: r)).length : Int).toNat)).drop 3 = scv r := by
    rw [Int.toNat_natCast, List.take_length]; rfl
   have h1l : (scv (car :: nu :: pe :: r)).all (fun x => x.length == 1) = true := by simp [scv]
   have rl : r.length ≤ 10000000 := by simp at m2; omega
   refine Evt.imp2 (Evt.and e0 (Evt.and e3 e4)) (Evt.and (Evt.and e1 e2) (Evt.ge (s.length + 10))) fun n ⟨a0, a3, a4⟩ ⟨⟨a1, a2⟩, a9⟩ => ?_
   refine stO _ a0 (stO _ rfl (stO _ rfl (stO _ rfl (stO _ rfl (stC rfl (stO _ (Qae ..) (stF rfl (stO _ rfl (stF (decF (by show ¬ ((scv (car :: nu :: pe :: r)).length : Int) < 8; rw [QaS]; omega)) (stO _ rfl (stF (bneF (by show Int.tmod ((scv (car :: nu :: pe :: r)).length : Int) 5 = 3; rw [hmod]; omega)) (stO _ rfl (stO [.str car] rfl (stC rfl (stO _ rfl (stC rfl (stO _ rfl (stO [.str nu] rfl (stC rfl (stO _ rfl (stO _ a1 (stO _ rfl (stO _ rfl (stO _ rfl (stO _ rfl (stC rfl (stC rfl (stO _ (Qae ..) (stF (bneF (Classical.byContradiction q3)) (stO _ rfl (stO [.str pe] rfl (stC rfl (stO _ rfl (stO _ a2 (stO _ rfl (stO _ rfl (stO _ rfl (stO _ rfl (stO _ rfl (stC rfl (stO _ rfl (stO _ rfl (stO _ rfl (stC rfl (stO _ (Qae ..) (stF (bneF (Classical.byContradiction q4)) (stO _ rfl (stC h1l (stC (decT ⟨by decide, by show (3 : Int) ≤ ((scv (car :: nu :: pe :: r)).length : Int); rw [QaS]; omega⟩) ?_)))))))))))))))))))))))))))))))))))))))))))))))))
   refine stO (Qin (scv r).length r) ?_ (stC (Qv7 _ _) ?_)
   ·show itChunk [[.list _ (((scv (car :: nu :: pe :: r)).take (((scv (car :: nu :: pe :: r)).length : Int).toNat)).drop 3)], [.int .i64 5]] = _
    rw [hcut]
    exact Qxj _ r rl
   ·exact Qt3 (lb + 1) s _ _ _ _ _ _ car _ _ _ _ n (r.length / 5) r [] [] (scv r).length (by simp at q2; omega) (by rw [QaS]; exact Nat.le_refl _) rfl (by simp; omega) a3 a4 _ n (by omega)
end Go.Proofs
set_option linter.unusedVariables false
namespace Go.Proofs
open Go.Am
theorem Qon {a b : UInt8} {v : Int} (h : digV 0 [a, b] = some v) : 0 ≤ v ∧ v ≤ 99 ∧ (a.toNat : Int) = 48 + v / 10 ∧ (b.toNat : Int) = 48 + v % 10 := by
 unfold digV at h
 split at h
 ·cases h
 ·rename_i h1
  unfold digV at h
  split at h
  ·cases h
  ·rename_i h2
   simp only [digV, Option.some.injEq] at h
   omega
theorem QvE : ∀ z : Fin 100, twoS (z.val : Int) = [UInt8.ofNat (48 + z.val / 10), UInt8.ofNat (48 + z.val % 10)] := by decide +kernel
theorem Qk6 {a b : UInt8} {v : Int} (h : digV 0 [a, b] = some v) : [a, b] = twoS v := by
 obtain ⟨h0, h1, h2, h3⟩ := Qon h
 obtain ⟨k, rfl⟩ : ∃ k : Nat, v = k := ⟨v.toNat, by omega⟩
 have := QvE ⟨k, by omega⟩
 simp only at this
 rw [this]
 have e1 : a = UInt8.ofNat (48 + k / 10) := QbQ (by rw [UInt8.toNat_ofNat']; omega)
 have e2 : b = UInt8.ofNat (48 + k % 10) := QbQ (by rw [UInt8.toNat_ofNat']; omega)
 rw [e1, e2]
theorem Qtq : ∀ (p q : Bs) (a : Int), digV a (p ++ q) = (digV a p).bind fun v => digV v q
 | [], q, a => rfl
 | c :: p, q, a => by
  simp only [List.cons_append, digV]
  split
  ·rfl
  ·exact Qtq p q _
theorem Qk9 : ∀ (q : Bs) (a v : Int), digV a q = some v → digV 0 q = some (v - 10 ^ q.length * a)
 | [], a, v, h => by
  obtain rfl : a = v := by simpa [digV] using h
  simp [digV]
 | c :: q, a, v, h => by
  unfold digV at h ⊢
  split at h
  ·cases h
  ·rename_i hc
   rw [if_neg hc]
   have h1 := Qk9 q _ v h
   cases h2 : digV (10 * 0 + ((c.toNat : Int) - 48)) q with
   | none =>
    exfalso
    have h3 : ∀ (q : Bs) (a b : Int), digV a q = none → digV b q = none := by
     intro q
     induction q with
     | nil => intro a b h; cases h
     | cons x q ih =>
      intro a b h
      unfold digV at h ⊢
      split
      ·rfl
      ·rename_i hx
       rw [if_neg hx] at h
       exact ih _ _ h
    rw [h3 q _ (10 * a + ((c.toNat : Int) - 48)) h2] at h
    cases h
   | some u =>
    have h4 := Qk9 q _ u h2
    rw [h1] at h4
    have h5 := Option.some.inj h4
    refine congrArg some ?_
    simp only [List.length_cons, Int.pow_succ]
    have e1 : (10 : Int) ^ q.length * (10 * 0 + ((c.toNat : Int) - 48)) = 10 ^ q.length * ((c.toNat : Int) - 48) := by rw [Int.mul_zero, Int.zero_add]
    have e2 : (10 : Int) ^ q.length * (10 * a + ((c.toNat : Int) - 48)) = 10 ^ q.length * 10 * a + 10 ^ q.length * ((c.toNat : Int) - 48) := by rw [Int.mul_add, Int.mul_assoc]
    rw [e1, e2] at h5
    omega
theorem Qv3 {a b c d : UInt8} {v : Int} (h : digV 0 [a, b, c, d] = some v) (hv : 2000 ≤ v ∧ v ≤ 2099) : [a, b, c, d] = twoS (IntKind.wrap .i64 (Int.tdiv v 100)) ++ twoS (Int.tmod v 100) := by
 have h1 : digV 0 ([a, b] ++ [c, d]) = some v := h
 rw [Qtq] at h1
 cases h2 : digV 0 [a, b] with
 | none => rw [h2] at h1; cases h1
 | some u =>
  rw [h2] at h1
  have h3 := Qk9 [c, d] u v h1
  obtain ⟨a0, a1, _, _⟩ := Qon h2
  obtain ⟨b0, b1, _, _⟩ := Qon h3
  have e : (10 : Int) ^ [c, d].length * u = 100 * u := rfl
  rw [e] at b0 b1 h3
  have e1 : Int.tdiv v 100 = u := by
   rw [Int.tdiv_eq_ediv_of_nonneg (by omega)]
   omega
  have e2 : Int.tmod v 100 = v - 100 * u := by
   rw [Int.tmod_eq_emod_of_nonneg (by omega)]
   omega
  rw [e1, e2, Qag (by omega) (by omega), ← Qk6 h2, ← Qk6 h3]
  rfl
theorem Qzg {s : Bs} (h : s.length = 10) : ∃ a b c d e f g i j k, s = [a, b, c, d, e, f, g, i, j, k] := by
 match s, h with
 | [a, b, c, d, e, f, g, i, j, k], _ => exact ⟨a, b, c, d, e, f, g, i, j, k, rfl⟩
theorem Qrf {s : Bs} {D : Int} (h : QdJ s = .tup [.int .i64 D, .int .i64 0]) : s = QbS D ∧ 0 ≤ D ∧ D < 36525 := by
 unfold QdJ at h
 split at h
 ·rename_i hs
  obtain ⟨hl, h4, h7⟩ := hs
  obtain ⟨a, b, c, d, e, f, g, i, j, k, rfl⟩ := Qzg hl
  have q1 : (([a, b, c, d, e, f, g, i, j, k] : Bs).take 4).drop 0 = [a, b, c, d] := rfl
  have q2 : (([a, b, c, d, e, f, g, i, j, k] : Bs).take 7).drop 5 = [f, g] := rfl
  have q3 : (([a, b, c, d, e, f, g, i, j, k] : Bs).take ([a, b, c, d, e, f, g, i, j, k] : Bs).length).drop 8 = [j, k] := rfl
  rw [q1, q2, q3] at h
  obtain rfl : e = 45 := Option.some.inj h4
  obtain rfl : i = 45 := Option.some.inj h7
  cases v1 : digV 0 [a, b, c, d] with
  | none => rw [v1] at h; simp at h
  | some y =>
   cases v2 : digV 0 [f, g] with
   | none => rw [v1, v2] at h; simp at h
   | some m =>
    cases v3 : digV 0 [j, k] with
    | none => rw [v1, v2, v3] at h; simp at h
    | some dd =>
     rw [v1, v2, v3] at h
     simp only at h
     unfold dayV at h
     split at h
     ·rename_i hg
      have hD : dayN y m dd = D := by simpa using h
      obtain ⟨d0, d1, d2⟩ := QtQ hg
      subst hD
      refine ⟨?_, d0, d1⟩
      unfold QbS
      rw [d2]
      simp only
      rw [← Qv3 v1 ⟨hg.1, hg.2.1⟩, ← Qk6 v2, ← Qk6 v3]
      rfl
     ·simp at h
 ·simp at h
theorem QnO {c : UInt8} : ∀ (s : Bs), QaN c s ≠ [] ∧ s = Lib.join (QaN c s) [c]
 | [] => ⟨by simp [QaN], rfl⟩
 | x :: s => by
  obtain ⟨h1, h2⟩ := QnO (c := c) s
  have h3 : QaN c (x :: s) = if x = c then [] :: QaN c s else match QaN c s with
   | w :: ws => (x :: w) :: ws
   | [] => [[x]] := rfl
  rw [h3]
  cases hs : QaN c s with
  | nil => exact absurd hs h1
  | cons w ws =>
   rw [hs] at h2
   by_cases hx : x = c
   ·rw [if_pos hx]
    refine ⟨by simp, ?_⟩
    rw [h2, hx]
    rfl
   ·rw [if_neg hx]
    refine ⟨by simp, ?_⟩
    simp only
    rw [h2]
    cases ws <;> rfl
theorem Qr7 {s : Bs} {fr to days : Int} (h : perP s = .tup [.agg [.int .i64 fr, .int .i64 to, .int .i64 days], .int .i64 0]) : s = perS fr to days ∧ perE fr to days = 0 := by
 by_cases h3 : (QaN 47 s).length ≠ 3
 ·rw [QkV h3] at h
  simp at h
 obtain ⟨a, b, c, hsp⟩ := Qjy (Classical.byContradiction h3)
 have hj := (QnO (c := 47) s).2
 rw [hsp] at hj
 unfold perP at h
 rw [hsp] at h
 simp only at h
 split at h
 ·rename_i q
  simp at h
  exact absurd h.2 (fun e => q e)
 ·rename_i q1
  split at h
  ·rename_i q
   simp at h
   exact absurd h.2 (fun e => q e)
  ·rename_i q2
   have e1 : QdJ a = .tup [.int .i64 (pD a).1, .int .i64 0] := by rw [QjI, Classical.byContradiction q1]
   have e2 : QdJ b = .tup [.int .i64 (pD b).1, .int .i64 0] := by rw [QjI, Classical.byContradiction q2]
   obtain ⟨a1, _⟩ := Qrf e1
   obtain ⟨b1, _⟩ := Qrf e2
   unfold finV at h
   cases hw : wkR c with
   | none => rw [hw] at h; simp at h
   | some w =>
    rw [hw] at h
    simp only at h
    split at h
    ·rename_i q3
     simp at h
     exact absurd h.2 (fun e => q3 e)
    ·rename_i q3
     have hE : perE (pD a).1 (pD b).1 w = 0 := Classical.byContradiction q3
     simp at h
     obtain ⟨r1, r2, r3⟩ := h
     subst r1 r2 r3
     refine ⟨?_, hE⟩
     unfold wkR at hw
     split at hw
     ·cases hw
     ·obtain ⟨v, rfl, v1, v2⟩ := Qyk hw
      unfold perS
      rw [if_neg (fun e => e hE), Int.toNat_natCast, ← a1, ← b1, ← v2, hj]
      simp [Lib.join]
end Go.Proofs
set_option linter.unusedVariables false
namespace Go.Proofs
open Go.Am
theorem QnI : ∀ (l : List Lg), (∀ x ∈ l, legV x = 0) → QbR (l.flatMap legWords) = .ok l
 | [], _ => rfl
 | x :: l, h => by
  obtain ⟨_, _, _, h4, h5⟩ := Qo8 (h x (by simp))
  have r4 := Qd4 h4
  have r5 := Qd4 h5
  have e : (x :: l).flatMap legWords = x.fro :: x.to :: Lib.itoa x.dep :: Lib.itoa x.arr :: x.eq :: l.flatMap legWords := rfl
  rw [e]
  unfold QbR
  rw [Qjx x.dep (by omega) (by omega), Qjx x.arr (by omega) (by omega), if_neg (fun q => q rfl), if_neg (fun q => q rfl), QnI l (fun y hy => h y (by simp [hy]))]
theorem Qob {fr to days : Int} (h : perE fr to days = 0) : pP (perS fr to days) = ((fr, to, days), 0) := by
 unfold pP
 rw [Qwn h]
theorem QmY {f : Fl} (h : wrE f = 0) : Qe2 (Qar (wl f)) = .tup [flcv (mkF f.car f.num f.fr f.to f.days f.legs), .int .i64 0] := by
 obtain ⟨_, h2, h3, h4, h5, h6, h7⟩ := QrZ h
 have hl := Qoc f.legs
 unfold Qe2
 rw [Qez]
 simp only
 have hlen : (wl f).length = 3 + 5 * f.legs.length := by
  show ([f.car, Lib.itoa f.num, perS f.fr f.to f.days] ++ f.legs.flatMap legWords).length = _
  rw [List.length_append, hl]
  rfl
 rw [if_neg (by rw [hlen]; omega)]
 show Qsz (f.car :: Lib.itoa f.num :: perS f.fr f.to f.days :: f.legs.flatMap legWords) = _
 rw [Qhr, Qjx f.num (by omega) (by omega), Qob h4, if_neg (fun q => q rfl), if_neg (fun q => q rfl)]
 unfold QfJ
 rw [QnI f.legs h7]
 simp only [List.nil_append]
 unfold endF
 have e : wrE (mkF f.car f.num f.fr f.to f.days f.legs) = wrE f := rfl
 rw [e, if_neg (fun q => q h)]
theorem Qkm {s : Bs} (h : ¬ (numB s).2 ≠ 0) : s = Lib.itoa (numB s).1 := by
 have : numB s = ((numB s).1, 0) := by
  have := Classical.byContradiction h
  rw [← this]
 exact (Qrm this).1
theorem QpX : ∀ (m : Nat) (r : List Bs) (l : List Lg), r.length = 5 * m → QbR r = .ok l → r = l.flatMap legWords
 | 0, r, l, hr, h => by
  obtain rfl : r = [] := List.length_eq_zero_iff.1 (by omega)
  simp only [QbR, Except.ok.injEq] at h
  subst h
  rfl
 | m + 1, a :: b :: c :: d :: e :: r, l, hr, h => by
  unfold QbR at h
  split at h
  ·cases h
  ·rename_i q1
   split at h
   ·cases h
   ·rename_i q2
    cases hl : QbR r with
    | error x => rw [hl] at h; cases h
    | ok l' =>
     rw [hl] at h
     simp only [Except.ok.injEq] at h
     subst h
     have := QpX m r l' (by simp at hr; omega) hl
     rw [this]
     show _ = a :: b :: Lib.itoa (numB c).1 :: Lib.itoa (numB d).1 :: e :: l'.flatMap legWords
     rw [← Qkm q1, ← Qkm q2]
theorem Qxl {e : Int} {c : CV} (he : e ≠ 0) : QfK e ≠ .tup [c, .int .i64 0] := by
 intro h
 simp at h
 exact he h.2
theorem QtU (s : Bs) : (∃ e, Qe2 s = QfK e ∧ e ≠ 0) ∨ ∃ f, Qe2 s = .tup [flcv f, .int .i64 0] ∧ wrE f = 0 ∧ s = Qar (wl f) := by
 unfold Qe2
 cases hw : Qdd s with
 | none => exact .inl ⟨3, rfl, by decide⟩
 | some w =>
  simp only
  have hj := Qev hw
  by_cases q : w.length < 8 ∨ w.length % 5 ≠ 3
  ·rw [if_pos q]
   exact .inl ⟨3, rfl, by decide⟩
  rw [if_neg q]
  rcases w with _ | ⟨car, _ | ⟨nu, _ | ⟨pe, r⟩⟩⟩
  ·exact absurd (Or.inl (by simp)) q
  ·exact absurd (Or.inl (by simp)) q
  ·exact absurd (Or.inl (by simp)) q
  ·skip
   rw [Qhr]
   by_cases q1 : (numB nu).2 ≠ 0
   ·rw [if_pos q1]
    exact .inl ⟨_, rfl, q1⟩
   rw [if_neg q1]
   by_cases q2 : (pP pe).2 ≠ 0
   ·rw [if_pos q2]
    exact .inl ⟨_, rfl, q2⟩
   rw [if_neg q2]
   unfold QfJ
   cases hl : QbR r with
   | error e =>
    have : ∀ (m : Nat) (r : List Bs), r.length = 5 * m → QbR r = .error e → e ≠ 0 := by
     intro m
     induction m with
     | zero =>
      intro r hr h
      obtain rfl : r = [] := List.length_eq_zero_iff.1 (by omega)
      simp [QbR] at h
     | succ m ih =>
      intro r hr h
      match r, hr with
      | a :: b :: c :: d :: x :: r, hr =>
       unfold QbR at h
       split at h
       ·rename_i z; simp at h; subst h; exact z
       ·split at h
        ·rename_i z; simp at h; subst h; exact z
        ·cases hl2 : QbR r with
         | error y =>
          rw [hl2] at h
          simp at h
          subst h
          exact ih r (by simp at hr; omega) hl2
         | ok y => rw [hl2] at h; simp at h
    exact .inl ⟨e, rfl, this (r.length / 5) r (by simp at q; omega) hl⟩
   | ok l =>
    simp only [List.nil_append]
    unfold endF
    by_cases q3 : wrE (mkF car (numB nu).1 (pP pe).1.1 (pP pe).1.2.1 (pP pe).1.2.2 l) ≠ 0
    ·rw [if_pos q3]
     exact .inl ⟨_, rfl, q3⟩
    rw [if_neg q3]
    refine .inr ⟨_, rfl, Classical.byContradiction q3, ?_⟩
    have e1 := Qkm q1
    have e2 : pe = perS (pP pe).1.1 (pP pe).1.2.1 (pP pe).1.2.2 := by
     have := QiE pe
     rw [Classical.byContradiction q2] at this
     exact (Qr7 this).1
    have e3 := QpX (r.length / 5) r l (by simp at q; omega) hl
    rw [hj]
    show Qar (car :: nu :: pe :: r) = Qar (car :: Lib.itoa (numB nu).1 :: perS (pP pe).1.1 (pP pe).1.2.1 (pP pe).1.2.2 :: l.flatMap legWords)
    rw [← e1, ← e2, ← e3]
end Go.Proofs
