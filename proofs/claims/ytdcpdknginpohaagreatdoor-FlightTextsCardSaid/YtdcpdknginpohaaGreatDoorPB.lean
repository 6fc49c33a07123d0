/- Chapter 4: weekdays, there and back. Conditions: none. -/
import Derived.Test.YtdcpdknginpohaaGreatDoorPA
set_option linter.unusedVariables false
namespace Go.Proofs
open Go.Am
def dayR (w : Nat) : Nat → Nat → Bs
  | _, 0 => []
  | k, n + 1 => (if bitOf w k then [UInt8.ofNat (49 + k)] else []) ++ dayR w (k + 1) n
theorem dayR_S : ∀ d : Fin 128, dayS d.val 7 = dayR d.val 0 7 := by decide +kernel
theorem wk_there : ∀ d : Fin 128, wkV (-1) 0 (dayS d.val 7) = some (d.val : Int) := by decide +kernel
theorem dayR_nil : ∀ (k : Fin 8) (d : Fin 128), d.val < 2 ^ k.val → dayR d.val k.val (7 - k.val) = [] := by decide +kernel
theorem dayR_cons : ∀ (j : Fin 7) (k : Fin 8) (w : Fin 128), k.val ≤ j.val → 2 ^ j.val ≤ w.val % 2 ^ (j.val + 1) → w.val % 2 ^ (j.val + 1) - 2 ^ j.val < 2 ^ k.val →
    dayR w.val k.val (7 - k.val) = UInt8.ofNat (49 + j.val) :: dayR w.val (j.val + 1) (7 - (j.val + 1)) ∧ w.val % 2 ^ k.val = w.val % 2 ^ (j.val + 1) - 2 ^ j.val := by decide +kernel
theorem wk_gen : ∀ (t : Bs) (k d : Nat) (w : Int), k ≤ 7 → d < 2 ^ k → wkV ((k : Int) - 1) (d : Int) t = some w → ∃ v : Nat, w = v ∧ v < 128 ∧ v % 2 ^ k = d ∧ t = dayR v k (7 - k)
  | [], k, d, w, hk, hd, h => by
    obtain rfl : (d : Int) = w := by simpa [wkV] using h
    have h1 : d < 128 := Nat.lt_of_lt_of_le hd (Nat.pow_le_pow_right (n := 2) (by decide) hk)
    exact ⟨d, rfl, h1, Nat.mod_eq_of_lt hd, (dayR_nil ⟨k, by omega⟩ ⟨d, h1⟩ hd).symm⟩
  | c :: t, k, d, w, hk, hd, h => by
    unfold wkV at h
    by_cases hc : (c.toNat : Int) - 49 ≤ (k : Int) - 1 ∨ (c.toNat : Int) - 49 > 6
    · rw [if_pos hc] at h
      cases h
    rw [if_neg hc] at h
    obtain ⟨j, hj⟩ : ∃ j : Nat, (c.toNat : Int) - 49 = j := ⟨((c.toNat : Int) - 49).toNat, by omega⟩
    have hp : 2 ^ k ≤ 2 ^ j := Nat.pow_le_pow_right (by decide) (by omega)
    have hs : 2 ^ (j + 1) = 2 ^ j + 2 ^ j := by rw [Nat.pow_succ]; omega
    rw [hj, Int.toNat_natCast, show (j : Int) = ((j + 1 : Nat) : Int) - 1 by omega, show (d : Int) + 2 ^ j = ((d + 2 ^ j : Nat) : Int) by simp] at h
    obtain ⟨v, h1, h2, h3, h4⟩ := wk_gen t (j + 1) (d + 2 ^ j) w (by omega) (by omega) h
    obtain ⟨e1, e2⟩ := dayR_cons ⟨j, by omega⟩ ⟨k, by omega⟩ ⟨v, h2⟩ (by show k ≤ j; omega) (by show 2 ^ j ≤ v % 2 ^ (j + 1); omega) (by show v % 2 ^ (j + 1) - 2 ^ j < 2 ^ k; omega)
    simp only at e1 e2
    refine ⟨v, h1, h2, by omega, ?_⟩
    rw [e1, ← h4]
    congr 1
    refine u8_ext ?_
    have : c.toNat = 49 + j := by omega
    rw [UInt8.toNat_ofNat', this]
    omega
theorem wk_back {s : Bs} {w : Int} (h : wkV (-1) 0 s = some w) : ∃ v : Nat, w = v ∧ v < 128 ∧ s = dayS v 7 := by
  obtain ⟨v, h1, h2, _, h4⟩ := wk_gen s 0 0 w (by omega) (by decide) h
  exact ⟨v, h1, h2, by rw [h4, dayR_S ⟨v, h2⟩]⟩
end Go.Proofs
/- Chapter 3: the day of the date of a day is the day. Conditions: none. -/
set_option linter.unusedVariables false
namespace Go.Proofs
open Go.Am
theorem months_val (y : Int) : ∀ (k m : Nat) (rest : Int) (t : Int × Int × Int), monthsO y k (m : Int) rest = .inl t → (m : Int) + 1 ≤ t.2.1 ∧ rest = monLen y (t.2.1 - 1).toNat - monLen y m + (t.2.2 - 1)
  | 0, m, rest, t, h => by cases h
  | k + 1, m, rest, t, h => by
    unfold monthsO at h
    split at h
    · cases h
      refine ⟨Int.le_refl _, ?_⟩
      show rest = monLen y ((m : Int) + 1 - 1).toNat - monLen y m + (rest + 1 - 1)
      rw [show ((m : Int) + 1 - 1).toNat = m by omega]
      omega
    · obtain ⟨h1, h2⟩ := months_val y k (m + 1) (rest - lenF y ((m : Int) + 1)) t h
      have h3 : monLen y (m + 1) = monLen y m + lenF y ((m : Int) + 1) := rfl
      refine ⟨by omega, by omega⟩
theorem day_of_date {D : Int} (h0 : 0 ≤ D) (hD : D < 36525) : GoodYmd (dateF D).1 (dateF D).2.1 (dateF D).2.2 ∧ dayN (dateF D).1 (dateF D).2.1 (dateF D).2.2 = D := by
  have hr := dateF_range h0 hD
  have hy := yearF_is h0 hD
  have hi := dateF_inl h0 hD
  have h := (monthsO_len (yearF D) 12 0 (D - firstF (yearF D)) (by have := hy.2.2.1; omega)).1 _ hi
  obtain ⟨h1, h2, h3, h4, h5⟩ := h
  obtain ⟨_, hv⟩ := months_val (yearF D) 12 0 (D - firstF (yearF D)) (dateF D) hi
  have hz : monLen (yearF D) 0 = 0 := rfl
  refine ⟨⟨hr.1, hr.2.1, hr.2.2.1, hr.2.2.2.1, hr.2.2.2.2.1, by rw [h1]; exact h5⟩, ?_⟩
  unfold dayN
  rw [h1]
  omega
end Go.Proofs
/- Chapter 3: the date of the day of a date is the date. Conditions: none. -/
set_option linter.unusedVariables false
namespace Go.Proofs
open Go.Am
theorem monLen_mono (y : Int) (j : Nat) : ∀ r, monLen y j ≤ monLen y (j + r)
  | 0 => Int.le_refl _
  | r + 1 => by
    have h1 := monLen_mono y j r
    have h2 := lenF_range y (((j + r : Nat) : Int) + 1)
    have h3 : monLen y (j + (r + 1)) = monLen y (j + r) + lenF y (((j + r : Nat) : Int) + 1) := rfl
    omega
theorem months_of (y : Int) (n : Nat) (d : Int) (hd : 1 ≤ d ∧ d ≤ lenF y ((n : Int) + 1)) : ∀ (k j : Nat), j ≤ n → n < j + k → monthsO y k (j : Int) (monLen y n - monLen y j + (d - 1)) = .inl (y, (n : Int) + 1, d)
  | 0, j, h1, h2 => by omega
  | k + 1, j, h1, h2 => by
    unfold monthsO
    by_cases e : j = n
    · subst e
      rw [if_pos (by omega), show monLen y j - monLen y j + (d - 1) + 1 = d by omega]
    · have h3 : monLen y (j + 1) = monLen y j + lenF y ((j : Int) + 1) := rfl
      have h4 := monLen_mono y (j + 1) (n - (j + 1))
      rw [show j + 1 + (n - (j + 1)) = n by omega] at h4
      rw [if_neg (by omega), show monLen y n - monLen y j + (d - 1) - lenF y ((j : Int) + 1) = monLen y n - monLen y (j + 1) + (d - 1) by omega]
      exact months_of y n d hd k (j + 1) (by omega) (by omega)
theorem firstF_up {y : Int} (h : 2000 ≤ y) : ∀ r : Nat, firstF y ≤ firstF (y + r)
  | 0 => by simp
  | r + 1 => by
    have h1 := firstF_up h r
    have h2 := firstF_step (y + r) (by omega)
    rw [show y + ((r + 1 : Nat) : Int) = y + (r : Int) + 1 by omega, h2]
    split <;> omega
theorem year_unique {D y z : Int} (hy : 2000 ≤ y) (hz : 2000 ≤ z) (h1 : firstF y ≤ D) (h2 : D < firstF (y + 1)) (h3 : firstF z ≤ D) (h4 : D < firstF (z + 1)) : y = z := by
  rcases Int.lt_trichotomy y z with h | h | h
  · have := firstF_up (y := y + 1) (by omega) (z - (y + 1)).toNat
    rw [show y + 1 + ((z - (y + 1)).toNat : Int) = z by omega] at this
    omega
  · exact h
  · have := firstF_up (y := z + 1) (by omega) (y - (z + 1)).toNat
    rw [show z + 1 + ((y - (z + 1)).toNat : Int) = y by omega] at this
    omega
theorem date_of_day {y m d : Int} (h : GoodYmd y m d) : 0 ≤ dayN y m d ∧ dayN y m d < 36525 ∧ dateF (dayN y m d) = (y, m, d) := by
  obtain ⟨h1, h2, h3, h4, h5, h6⟩ := h
  obtain ⟨n, rfl⟩ : ∃ n : Nat, m = (n : Int) + 1 := ⟨(m - 1).toNat, by omega⟩
  have hm := monLen_mono y (n + 1) (12 - (n + 1))
  rw [show n + 1 + (12 - (n + 1)) = 12 by omega] at hm
  have hm1 : monLen y (n + 1) = monLen y n + lenF y ((n : Int) + 1) := rfl
  have hm0 := (monLen_range y n).1
  have hs := firstF_step y h1
  rw [← monLen_12] at hs
  have hf := firstF_range (y := y) (by omega)
  have hN : dayN y ((n : Int) + 1) d = firstF y + (d - 1) + monLen y n := by
    unfold dayN
    rw [show ((n : Int) + 1 - 1).toNat = n by omega]
  have hlt : dayN y ((n : Int) + 1) d < firstF (y + 1) := by rw [hs, hN]; omega
  have hend := firstF_up (y := y + 1) (by omega) (2100 - (y + 1)).toNat
  rw [show y + 1 + ((2100 - (y + 1)).toNat : Int) = 2100 by omega, show firstF 2100 = 36525 by decide] at hend
  have h0 : 0 ≤ dayN y ((n : Int) + 1) d := by rw [hN]; omega
  have hD : dayN y ((n : Int) + 1) d < 36525 := by omega
  have hy := yearF_is h0 hD
  have hyy : yearF (dayN y ((n : Int) + 1) d) = y := year_unique hy.1 h1 hy.2.2.1 hy.2.2.2 (by rw [hN]; omega) hlt
  refine ⟨h0, hD, ?_⟩
  have hi := dateF_inl h0 hD
  have ho := months_of y n d ⟨h5, h6⟩ 12 0 (by omega) (by omega)
  rw [hyy, hN, show firstF y + (d - 1) + monLen y n - firstF y = monLen y n - monLen y 0 + (d - 1) by rw [show monLen y 0 = 0 from rfl]; omega] at hi
  rw [show ((0 : Nat) : Int) = 0 from rfl] at ho
  rw [ho] at hi
  rw [hN]
  exact (Sum.inl.inj hi).symm
end Go.Proofs
/- Chapter 3: a date that is written is read. Conditions: none. -/
set_option linter.unusedVariables false
namespace Go.Proofs
open Go.Am
theorem two_there : ∀ z : Fin 100, digV 0 (twoS (z.val : Int)) = some (z.val : Int) := by decide +kernel
theorem four_there : ∀ z : Fin 100, digV 0 (twoS (IntKind.wrap .i64 (Int.tdiv (2000 + (z.val : Int)) 100)) ++ twoS (Int.tmod (2000 + (z.val : Int)) 100)) = some (2000 + (z.val : Int)) := by decide +kernel
theorem two_there' {z : Int} (h : 0 ≤ z ∧ z < 100) : digV 0 (twoS z) = some z := by
  obtain ⟨k, rfl⟩ : ∃ k : Nat, z = k := ⟨z.toNat, by omega⟩
  exact two_there ⟨k, by omega⟩
theorem four_there' {y : Int} (h : 2000 ≤ y ∧ y ≤ 2099) : digV 0 (twoS (IntKind.wrap .i64 (Int.tdiv y 100)) ++ twoS (Int.tmod y 100)) = some y := by
  obtain ⟨k, rfl⟩ : ∃ k : Nat, y = 2000 + (k : Int) := ⟨(y - 2000).toNat, by omega⟩
  exact four_there ⟨k, by omega⟩
theorem date_there {D : Int} (h0 : 0 ≤ D) (hD : D < 36525) : parseD (dateS D) = .tup [.int .i64 D, .int .i64 0] := by
  obtain ⟨hg, hd⟩ := day_of_date h0 hD
  have hr := dateF_range h0 hD
  have a1 : ((dateS D).take 4).drop 0 = twoS (IntKind.wrap .i64 (Int.tdiv (dateF D).1 100)) ++ twoS (Int.tmod (dateF D).1 100) := rfl
  have a2 : ((dateS D).take 7).drop 5 = twoS (dateF D).2.1 := rfl
  have a3 : ((dateS D).take (dateS D).length).drop 8 = twoS (dateF D).2.2 := rfl
  unfold parseD
  rw [if_pos ⟨dateS_len D, rfl, rfl⟩, a1, a2, a3, four_there' (by omega), two_there' (by omega), two_there' (by omega)]
  show dayV (dateF D).1 (dateF D).2.1 (dateF D).2.2 = _
  unfold dayV
  rw [if_pos hg, hd]
end Go.Proofs
/- Chapter 4: a period that is written is read. Conditions: none. -/
set_option linter.unusedVariables false
namespace Go.Proofs
open Go.Am
theorem two_no : ∀ z : Fin 100, (47 : UInt8) ∉ twoS (z.val : Int) := by decide +kernel
theorem four_no : ∀ z : Fin 100, (47 : UInt8) ∉ twoS (IntKind.wrap .i64 (Int.tdiv (2000 + (z.val : Int)) 100)) ++ twoS (Int.tmod (2000 + (z.val : Int)) 100) := by decide +kernel
theorem day_no : ∀ d : Fin 128, (47 : UInt8) ∉ dayS d.val 7 := by decide +kernel
theorem dateS_no {D : Int} (h0 : 0 ≤ D) (hD : D < 36525) : (47 : UInt8) ∉ dateS D := by
  have hr := dateF_range h0 hD
  obtain ⟨y, hy⟩ : ∃ k : Nat, (dateF D).1 = 2000 + (k : Int) := ⟨((dateF D).1 - 2000).toNat, by omega⟩
  obtain ⟨m, hm⟩ : ∃ k : Nat, (dateF D).2.1 = k := ⟨((dateF D).2.1).toNat, by omega⟩
  obtain ⟨d, hd⟩ : ∃ k : Nat, (dateF D).2.2 = k := ⟨((dateF D).2.2).toNat, by omega⟩
  have h1 := four_no ⟨y, by omega⟩
  have h2 := two_no ⟨m, by omega⟩
  have h3 := two_no ⟨d, by omega⟩
  simp only at h1 h2 h3
  unfold dateS
  rw [hy, hm, hd]
  simp only [List.mem_append, not_or] at h1 ⊢
  exact ⟨⟨⟨⟨h1, by decide⟩, h2⟩, by decide⟩, h3⟩
theorem splitC_no {c : UInt8} : ∀ {a : Bs}, c ∉ a → splitC c a = [a]
  | [], _ => rfl
  | x :: a, h => by
    have h1 : x ≠ c := fun e => h (by simp [e])
    unfold splitC
    rw [if_neg h1, splitC_no (fun e => h (List.mem_cons_of_mem _ e))]
theorem splitC_at {c : UInt8} {r : Bs} : ∀ {a : Bs}, c ∉ a → splitC c (a ++ c :: r) = a :: splitC c r
  | [], _ => by simp [splitC]
  | x :: a, h => by
    have h1 : x ≠ c := fun e => h (by simp [e])
    have h2 : splitC c (x :: (a ++ c :: r)) = if x = c then [] :: splitC c (a ++ c :: r) else match splitC c (a ++ c :: r) with
      | w :: ws => (x :: w) :: ws
      | [] => [[x]] := rfl
    rw [List.cons_append, h2, if_neg h1, splitC_at (fun e => h (List.mem_cons_of_mem _ e))]
theorem per_there {fr to days : Int} (h : perE fr to days = 0) : perP (perS fr to days) = .tup [.agg [.int .i64 fr, .int .i64 to, .int .i64 days], .int .i64 0] := by
  obtain ⟨b1, b2, b3, b4, b5⟩ := perE_00 h
  obtain ⟨d, rfl⟩ : ∃ d : Nat, days = d := ⟨days.toNat, by omega⟩
  have hs : splitC 47 (perS fr to (d : Int)) = [dateS fr, dateS to, dayS d 7] := by
    unfold perS
    rw [if_neg (fun e => e h), Int.toNat_natCast, show ((dateS fr ++ [47]) ++ dateS to ++ [47]) ++ dayS d 7 = dateS fr ++ 47 :: (dateS to ++ 47 :: dayS d 7) by simp, splitC_at (dateS_no (by omega) (by omega)), splitC_at (dateS_no (by omega) (by omega)), splitC_no (day_no ⟨d, by omega⟩)]
  have e1 : pD (dateS fr) = (fr, 0) := by unfold pD; rw [date_there (by omega) (by omega)]
  have e2 : pD (dateS to) = (to, 0) := by unfold pD; rw [date_there (by omega) (by omega)]
  have e3 : wkR (dayS d 7) = some (d : Int) := by
    have h1 := wk_there ⟨d, by omega⟩
    unfold wkR
    by_cases hc : dayS d 7 = []
    · simp only [hc] at h1
      have : (0 : Int) = (d : Int) := by simpa [wkV] using h1
      omega
    · rw [if_neg hc]
      exact h1
  unfold perP
  rw [hs]
  simp only
  rw [e1, e2, e3]
  simp only
  rw [if_neg (by simp), if_neg (by simp)]
  unfold finV
  simp only
  rw [if_neg (fun e => e h)]
end Go.Proofs
/- Chapters 3 and 4: a date and a period that are read are written so. Conditions: none. -/
set_option linter.unusedVariables false
namespace Go.Proofs
open Go.Am
theorem digV_two {a b : UInt8} {v : Int} (h : digV 0 [a, b] = some v) : 0 ≤ v ∧ v ≤ 99 ∧ (a.toNat : Int) = 48 + v / 10 ∧ (b.toNat : Int) = 48 + v % 10 := by
  unfold digV at h
  split at h
  · cases h
  · rename_i h1
    unfold digV at h
    split at h
    · cases h
    · rename_i h2
      simp only [digV, Option.some.injEq] at h
      omega
theorem twoS_back : ∀ z : Fin 100, twoS (z.val : Int) = [UInt8.ofNat (48 + z.val / 10), UInt8.ofNat (48 + z.val % 10)] := by decide +kernel
theorem two_back {a b : UInt8} {v : Int} (h : digV 0 [a, b] = some v) : [a, b] = twoS v := by
  obtain ⟨h0, h1, h2, h3⟩ := digV_two h
  obtain ⟨k, rfl⟩ : ∃ k : Nat, v = k := ⟨v.toNat, by omega⟩
  have := twoS_back ⟨k, by omega⟩
  simp only at this
  rw [this]
  have e1 : a = UInt8.ofNat (48 + k / 10) := u8_ext (by rw [UInt8.toNat_ofNat']; omega)
  have e2 : b = UInt8.ofNat (48 + k % 10) := u8_ext (by rw [UInt8.toNat_ofNat']; omega)
  rw [e1, e2]
theorem digV_app : ∀ (p q : Bs) (a : Int), digV a (p ++ q) = (digV a p).bind fun v => digV v q
  | [], q, a => rfl
  | c :: p, q, a => by
    simp only [List.cons_append, digV]
    split
    · rfl
    · exact digV_app p q _
theorem digV_shift : ∀ (q : Bs) (a v : Int), digV a q = some v → digV 0 q = some (v - 10 ^ q.length * a)
  | [], a, v, h => by
    obtain rfl : a = v := by simpa [digV] using h
    simp [digV]
  | c :: q, a, v, h => by
    unfold digV at h ⊢
    split at h
    · cases h
    · rename_i hc
      rw [if_neg hc]
      have h1 := digV_shift q _ v h
      cases h2 : digV (10 * 0 + ((c.toNat : Int) - 48)) q with
      | none =>
        exfalso
        have h3 : ∀ (q : Bs) (a b : Int), digV a q = none → digV b q = none := by
          intro q
          induction q with
          | nil => intro a b h; cases h
          | cons x q ih =>
            intro a b h
            unfold digV at h ⊢
            split
            · rfl
            · rename_i hx
              rw [if_neg hx] at h
              exact ih _ _ h
        rw [h3 q _ (10 * a + ((c.toNat : Int) - 48)) h2] at h
        cases h
      | some u =>
        have h4 := digV_shift q _ u h2
        rw [h1] at h4
        have h5 := Option.some.inj h4
        refine congrArg some ?_
        simp only [List.length_cons, Int.pow_succ]
        have e1 : (10 : Int) ^ q.length * (10 * 0 + ((c.toNat : Int) - 48)) = 10 ^ q.length * ((c.toNat : Int) - 48) := by rw [Int.mul_zero, Int.zero_add]
        have e2 : (10 : Int) ^ q.length * (10 * a + ((c.toNat : Int) - 48)) = 10 ^ q.length * 10 * a + 10 ^ q.length * ((c.toNat : Int) - 48) := by rw [Int.mul_add, Int.mul_assoc]
        rw [e1, e2] at h5
        omega
theorem four_back {a b c d : UInt8} {v : Int} (h : digV 0 [a, b, c, d] = some v) (hv : 2000 ≤ v ∧ v ≤ 2099) : [a, b, c, d] = twoS (IntKind.wrap .i64 (Int.tdiv v 100)) ++ twoS (Int.tmod v 100) := by
  have h1 : digV 0 ([a, b] ++ [c, d]) = some v := h
  rw [digV_app] at h1
  cases h2 : digV 0 [a, b] with
  | none => rw [h2] at h1; cases h1
  | some u =>
    rw [h2] at h1
    have h3 := digV_shift [c, d] u v h1
    obtain ⟨a0, a1, _, _⟩ := digV_two h2
    obtain ⟨b0, b1, _, _⟩ := digV_two h3
    have e : (10 : Int) ^ [c, d].length * u = 100 * u := rfl
    rw [e] at b0 b1 h3
    have e1 : Int.tdiv v 100 = u := by
      rw [Int.tdiv_eq_ediv_of_nonneg (by omega)]
      omega
    have e2 : Int.tmod v 100 = v - 100 * u := by
      rw [Int.tmod_eq_emod_of_nonneg (by omega)]
      omega
    rw [e1, e2, wrap64 (by omega) (by omega), ← two_back h2, ← two_back h3]
    rfl
theorem eight {s : Bs} (h : s.length = 10) : ∃ a b c d e f g i j k, s = [a, b, c, d, e, f, g, i, j, k] := by
  match s, h with
  | [a, b, c, d, e, f, g, i, j, k], _ => exact ⟨a, b, c, d, e, f, g, i, j, k, rfl⟩
theorem date_back {s : Bs} {D : Int} (h : parseD s = .tup [.int .i64 D, .int .i64 0]) : s = dateS D ∧ 0 ≤ D ∧ D < 36525 := by
  unfold parseD at h
  split at h
  · rename_i hs
    obtain ⟨hl, h4, h7⟩ := hs
    obtain ⟨a, b, c, d, e, f, g, i, j, k, rfl⟩ := eight hl
    have q1 : (([a, b, c, d, e, f, g, i, j, k] : Bs).take 4).drop 0 = [a, b, c, d] := rfl
    have q2 : (([a, b, c, d, e, f, g, i, j, k] : Bs).take 7).drop 5 = [f, g] := rfl
    have q3 : (([a, b, c, d, e, f, g, i, j, k] : Bs).take ([a, b, c, d, e, f, g, i, j, k] : Bs).length).drop 8 = [j, k] := rfl
    rw [q1, q2, q3] at h
    obtain rfl : e = 45 := Option.some.inj h4
    obtain rfl : i = 45 := Option.some.inj h7
    cases v1 : digV 0 [a, b, c, d] with
    | none => rw [v1] at h; simp at h
    | some y =>
      cases v2 : digV 0 [f, g] with
      | none => rw [v1, v2] at h; simp at h
      | some m =>
        cases v3 : digV 0 [j, k] with
        | none => rw [v1, v2, v3] at h; simp at h
        | some dd =>
          rw [v1, v2, v3] at h
          simp only at h
          unfold dayV at h
          split at h
          · rename_i hg
            have hD : dayN y m dd = D := by simpa using h
            obtain ⟨d0, d1, d2⟩ := date_of_day hg
            subst hD
            refine ⟨?_, d0, d1⟩
            unfold dateS
            rw [d2]
            simp only
            rw [← four_back v1 ⟨hg.1, hg.2.1⟩, ← two_back v2, ← two_back v3]
            rfl
          · simp at h
  · simp at h
theorem splitC_join {c : UInt8} : ∀ (s : Bs), splitC c s ≠ [] ∧ s = Lib.join (splitC c s) [c]
  | [] => ⟨by simp [splitC], rfl⟩
  | x :: s => by
    obtain ⟨h1, h2⟩ := splitC_join (c := c) s
    have h3 : splitC c (x :: s) = if x = c then [] :: splitC c s else match splitC c s with
      | w :: ws => (x :: w) :: ws
      | [] => [[x]] := rfl
    rw [h3]
    cases hs : splitC c s with
    | nil => exact absurd hs h1
    | cons w ws =>
      rw [hs] at h2
      by_cases hx : x = c
      · rw [if_pos hx]
        refine ⟨by simp, ?_⟩
        rw [h2, hx]
        rfl
      · rw [if_neg hx]
        refine ⟨by simp, ?_⟩
        simp only
        rw [h2]
        cases ws <;> rfl
theorem per_back {s : Bs} {fr to days : Int} (h : perP s = .tup [.agg [.int .i64 fr, .int .i64 to, .int .i64 days], .int .i64 0]) : s = perS fr to days ∧ perE fr to days = 0 := by
  by_cases h3 : (splitC 47 s).length ≠ 3
  · rw [perP_not h3] at h
    simp at h
  obtain ⟨a, b, c, hsp⟩ := three (Classical.byContradiction h3)
  have hj := (splitC_join (c := 47) s).2
  rw [hsp] at hj
  unfold perP at h
  rw [hsp] at h
  simp only at h
  split at h
  · rename_i q
    simp at h
    exact absurd h.2 (fun e => q e)
  · rename_i q1
    split at h
    · rename_i q
      simp at h
      exact absurd h.2 (fun e => q e)
    · rename_i q2
      have e1 : parseD a = .tup [.int .i64 (pD a).1, .int .i64 0] := by rw [parseD_pD, Classical.byContradiction q1]
      have e2 : parseD b = .tup [.int .i64 (pD b).1, .int .i64 0] := by rw [parseD_pD, Classical.byContradiction q2]
      obtain ⟨a1, _⟩ := date_back e1
      obtain ⟨b1, _⟩ := date_back e2
      unfold finV at h
      cases hw : wkR c with
      | none => rw [hw] at h; simp at h
      | some w =>
        rw [hw] at h
        simp only at h
        split at h
        · rename_i q3
          simp at h
          exact absurd h.2 (fun e => q3 e)
        · rename_i q3
          have hE : perE (pD a).1 (pD b).1 w = 0 := Classical.byContradiction q3
          simp at h
          obtain ⟨r1, r2, r3⟩ := h
          subst r1 r2 r3
          refine ⟨?_, hE⟩
          unfold wkR at hw
          split at hw
          · cases hw
          · obtain ⟨v, rfl, v1, v2⟩ := wk_back hw
            unfold perS
            rw [if_neg (fun e => e hE), Int.toNat_natCast, ← a1, ← b1, ← v2, hj]
            simp [Lib.join]
end Go.Proofs
/- Chapter 7: a flight that is written is read, and what is read is written so. Conditions: none. -/
set_option linter.unusedVariables false
namespace Go.Proofs
open Go.Am
theorem legsP_words : ∀ (l : List Lg), (∀ x ∈ l, legV x = 0) → legsP (l.flatMap legWords) = .ok l
  | [], _ => rfl
  | x :: l, h => by
    obtain ⟨_, _, _, h4, h5⟩ := legV_0 (h x (by simp))
    have r4 := okM_range h4
    have r5 := okM_range h5
    have e : (x :: l).flatMap legWords = x.fro :: x.to :: Lib.itoa x.dep :: Lib.itoa x.arr :: x.eq :: l.flatMap legWords := rfl
    rw [e]
    unfold legsP
    rw [numB_itoa x.dep (by omega) (by omega), numB_itoa x.arr (by omega) (by omega), if_neg (fun q => q rfl), if_neg (fun q => q rfl), legsP_words l (fun y hy => h y (by simp [hy]))]
theorem pP_there {fr to days : Int} (h : perE fr to days = 0) : pP (perS fr to days) = ((fr, to, days), 0) := by
  unfold pP
  rw [per_there h]
/-- what is written is read as it was -/
theorem flight_there {f : Fl} (h : wrE f = 0) : parseF (joinB (wl f)) = .tup [flcv (mkF f.car f.num f.fr f.to f.days f.legs), .int .i64 0] := by
  obtain ⟨_, h2, h3, h4, h5, h6, h7⟩ := wrE_0 h
  have hl := legs_len f.legs
  unfold parseF
  rw [wordsB_join]
  simp only
  have hlen : (wl f).length = 3 + 5 * f.legs.length := by
    show ([f.car, Lib.itoa f.num, perS f.fr f.to f.days] ++ f.legs.flatMap legWords).length = _
    rw [List.length_append, hl]
    rfl
  rw [if_neg (by rw [hlen]; omega)]
  show parseW (f.car :: Lib.itoa f.num :: perS f.fr f.to f.days :: f.legs.flatMap legWords) = _
  rw [parseW_cons, numB_itoa f.num (by omega) (by omega), pP_there h4, if_neg (fun q => q rfl), if_neg (fun q => q rfl)]
  unfold legsR
  rw [legsP_words f.legs h7]
  simp only [List.nil_append]
  unfold endF
  have e : wrE (mkF f.car f.num f.fr f.to f.days f.legs) = wrE f := rfl
  rw [e, if_neg (fun q => q h)]
theorem numB_ok {s : Bs} (h : ¬ (numB s).2 ≠ 0) : s = Lib.itoa (numB s).1 := by
  have : numB s = ((numB s).1, 0) := by
    have := Classical.byContradiction h
    rw [← this]
  exact (numB_back this).1
theorem legsP_back : ∀ (m : Nat) (r : List Bs) (l : List Lg), r.length = 5 * m → legsP r = .ok l → r = l.flatMap legWords
  | 0, r, l, hr, h => by
    obtain rfl : r = [] := List.length_eq_zero_iff.1 (by omega)
    simp only [legsP, Except.ok.injEq] at h
    subst h
    rfl
  | m + 1, a :: b :: c :: d :: e :: r, l, hr, h => by
    unfold legsP at h
    split at h
    · cases h
    · rename_i q1
      split at h
      · cases h
      · rename_i q2
        cases hl : legsP r with
        | error x => rw [hl] at h; cases h
        | ok l' =>
          rw [hl] at h
          simp only [Except.ok.injEq] at h
          subst h
          have := legsP_back m r l' (by simp at hr; omega) hl
          rw [this]
          show _ = a :: b :: Lib.itoa (numB c).1 :: Lib.itoa (numB d).1 :: e :: l'.flatMap legWords
          rw [← numB_ok q1, ← numB_ok q2]
/-- what is read: no flight, with an error, or a flight that is written so -/
theorem flight_back (s : Bs) : (∃ e, parseF s = fzero e ∧ e ≠ 0) ∨ ∃ f, parseF s = .tup [flcv f, .int .i64 0] ∧ wrE f = 0 ∧ s = joinB (wl f) := by
  unfold parseF
  cases hw : wordsB s with
  | none => exact .inl ⟨3, rfl, by decide⟩
  | some w =>
    simp only
    have hj := wordsB_some hw
    by_cases q : w.length < 8 ∨ w.length % 5 ≠ 3
    · rw [if_pos q]
      exact .inl ⟨3, rfl, by decide⟩
    rw [if_neg q]
    rcases w with _ | ⟨car, _ | ⟨nu, _ | ⟨pe, r⟩⟩⟩
    · exact absurd (Or.inl (by simp)) q
    · exact absurd (Or.inl (by simp)) q
    · exact absurd (Or.inl (by simp)) q
    · skip
      rw [parseW_cons]
      by_cases q1 : (numB nu).2 ≠ 0
      · rw [if_pos q1]
        exact .inl ⟨_, rfl, q1⟩
      rw [if_neg q1]
      by_cases q2 : (pP pe).2 ≠ 0
      · rw [if_pos q2]
        exact .inl ⟨_, rfl, q2⟩
      rw [if_neg q2]
      unfold legsR
      cases hl : legsP r with
      | error e =>
        have : ∀ (m : Nat) (r : List Bs), r.length = 5 * m → legsP r = .error e → e ≠ 0 := by
          intro m
          induction m with
          | zero =>
            intro r hr h
            obtain rfl : r = [] := List.length_eq_zero_iff.1 (by omega)
            simp [legsP] at h
          | succ m ih =>
            intro r hr h
            match r, hr with
            | a :: b :: c :: d :: x :: r, hr =>
              unfold legsP at h
              split at h
              · rename_i z; simp at h; subst h; exact z
              · split at h
                · rename_i z; simp at h; subst h; exact z
                · cases hl2 : legsP r with
                  | error y =>
                    rw [hl2] at h
                    simp at h
                    subst h
                    exact ih r (by simp at hr; omega) hl2
                  | ok y => rw [hl2] at h; simp at h
        exact .inl ⟨e, rfl, this (r.length / 5) r (by simp at q; omega) hl⟩
      | ok l =>
        simp only [List.nil_append]
        unfold endF
        by_cases q3 : wrE (mkF car (numB nu).1 (pP pe).1.1 (pP pe).1.2.1 (pP pe).1.2.2 l) ≠ 0
        · rw [if_pos q3]
          exact .inl ⟨_, rfl, q3⟩
        rw [if_neg q3]
        refine .inr ⟨_, rfl, Classical.byContradiction q3, ?_⟩
        have e1 := numB_ok q1
        have e2 : pe = perS (pP pe).1.1 (pP pe).1.2.1 (pP pe).1.2.2 := by
          have := perP_pP pe
          rw [Classical.byContradiction q2] at this
          exact (per_back this).1
        have e3 := legsP_back (r.length / 5) r l (by simp at q; omega) hl
        rw [hj]
        show joinB (car :: nu :: pe :: r) = joinB (car :: Lib.itoa (numB nu).1 :: perS (pP pe).1.1 (pP pe).1.2.1 (pP pe).1.2.2 :: l.flatMap legWords)
        rw [← e1, ← e2, ← e3]
end Go.Proofs
