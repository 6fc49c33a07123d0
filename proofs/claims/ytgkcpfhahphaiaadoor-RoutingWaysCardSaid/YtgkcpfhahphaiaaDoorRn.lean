/- What the functions of package text and of its reference answer: numbers. Conditions: as each says. -/
import Derived.Test.YtgkcpfhahphaiaaDoorRc
set_option linter.unusedSimpArgs false
namespace Go.Proofs
open Go.Am
variable (lb : Bool)
theorem wrapu64 {x : Int} (h0 : 0 ≤ x) (h1 : x < 18446744073709551616) : IntKind.wrap .u64 x = x := by
  unfold IntKind.wrap
  simp only [IntKind.bits, IntKind.signed]
  simp
  omega
theorem trim_unsign (s : Bs) : Lib.trimPrefix s [45] = unsign s := by
  cases s with
  | nil => rfl
  | cons c r =>
    unfold Lib.trimPrefix Lib.hasPrefix unsign
    by_cases h : c = 45
    · subst h; simp
    · have : ¬ (45 : UInt8) = c := fun q => h q.symm
      simp [h, this]
def pairR (p : Int × Int) : CV := .tup [.int .i64 p.1, .int .i64 p.2]
def numR (s : Bs) : CV := pairR (numB s)
def numV (neg : Bool) (v : Nat) : Int × Int := bif neg then (if v ≤ 9223372036854775808 then (-(v : Int), 0) else (0, 4)) else (if v < 9223372036854775808 then ((v : Int), 0) else (0, 4))
theorem numV_nl {v : Nat} (h : v ≤ 9223372036854775808) : numV true v = (-(v : Int), 0) := by unfold numV; rw [cond_true, if_pos h]
theorem numV_nh {v : Nat} (h : ¬ v ≤ 9223372036854775808) : numV true v = (0, 4) := by unfold numV; rw [cond_true, if_neg h]
theorem numV_pl {v : Nat} (h : v < 9223372036854775808) : numV false v = ((v : Int), 0) := by unfold numV; rw [cond_false, if_pos h]
theorem numV_ph {v : Nat} (h : ¬ v < 9223372036854775808) : numV false v = (0, 4) := by unfold numV; rw [cond_false, if_neg h]
theorem numB_bad {s : Bs} (h : unsign s = [] ∨ (unsign s).all isDg = false ∨ ((unsign s).head? = some 48 ∧ s ≠ [48])) : numB s = (0, 3) := by unfold numB; rw [if_pos h]
theorem numB_good {s : Bs} (h1 : unsign s ≠ []) (h2 : (unsign s).all isDg = true) (h3 : ¬ ((unsign s).head? = some 48 ∧ s ≠ [48])) : numB s = numV (signed s) (valF 0 (unsign s)) := by
  unfold numB numV
  rw [if_neg (by
    rintro (q | q | q)
    · exact h1 q
    · rw [h2] at q; cases q
    · exact h3 q)]
  cases signed s <;> rfl
theorem pairR_eq (a b : Int) : some (CV.tup [.int .i64 a, .int .i64 b]) = some (pairR (a, b)) := rfl
theorem atoi_val (s : Bs) (h1 : unsign s ≠ []) (h2 : (unsign s).all isDg = true) : Lib.atoiAll s =
    (if signed s then (if valF 0 (unsign s) ≤ 9223372036854775808 then .ok (-(valF 0 (unsign s) : Int)) else .range) else (if valF 0 (unsign s) < 9223372036854775808 then .ok (valF 0 (unsign s) : Int) else .range)) := by
  match s, h1, h2 with
  | [], h1, _ => exact (h1 rfl).elim
  | c :: r, h1, h2 =>
    have key : (if c.toNat = 43 ∨ c.toNat = 45 then r else c :: r) = unsign (c :: r) := by
      by_cases h : c = 45
      · subst h; rfl
      · have h45 : c.toNat ≠ 45 := fun q => h (u8_ext q)
        have e : unsign (c :: r) = c :: r := by simp [unsign, h]
        rw [e] at h2 ⊢
        simp only [List.all_cons, Bool.and_eq_true, isDg, decide_eq_true_eq] at h2
        rw [if_neg (by omega)]
    unfold Lib.atoiAll
    simp only [key]
    unfold Lib.parseMag
    rw [if_neg h1, parse_val _ _ h2 (by decide)]
    have hs : signed (c :: r) = decide (c.toNat = 45) := by
      unfold signed
      by_cases h : c = 45
      · subst h; rfl
      · have h45 : c.toNat ≠ 45 := fun q => h (u8_ext q)
        simp [h, h45]
    rw [hs]
    generalize valF 0 (unsign (c :: r)) = v
    by_cases hv : v < 18446744073709551616
    · rw [if_pos hv]
      by_cases hn : c.toNat = 45
      · simp only [hn, not_true_eq_false, false_and, if_false, true_and, decide_true, if_true]
        by_cases h5 : 9223372036854775808 < v
        · rw [if_pos h5, if_neg (by omega)]
        · rw [if_neg h5, if_pos (by omega)]
      · simp only [hn, not_false_eq_true, true_and, false_and, if_false, decide_false, Bool.false_eq_true]
        by_cases h5 : 9223372036854775808 ≤ v
        · rw [if_pos h5, if_neg (by omega)]
        · rw [if_neg h5, if_pos (by omega)]
    · rw [if_neg hv]
      simp only
      split
      · rw [if_neg (by omega)]
      · rw [if_neg (by omega)]
theorem valF_lt19 {d : Bs} (h : d.all isDg = true) (hl : d.length ≤ 19) : valF 0 d < 10000000000000000000 := by
  have h1 := valF_lt d 0 h
  have h2 : 10 ^ d.length ≤ 10 ^ 19 := Nat.pow_le_pow_right (by decide) hl
  omega
theorem big_val {x : UInt8} {xs : Bs} (hc : canon (x :: xs)) (h : 19 ≤ xs.length) : 10000000000000000000 ≤ valF 0 (x :: xs) := by
  obtain ⟨_, hd, h3⟩ := hc
  have hx48 : x.toNat ≠ 48 := fun q => by
    have := h3 (by rw [show x = 48 from u8_ext q]; rfl)
    simp only [List.cons.injEq] at this
    rw [this.2] at h; simp at h
  simp only [List.all_cons, Bool.and_eq_true, isDg, decide_eq_true_eq] at hd
  rw [valF_cons]
  have h4 := valF_pow xs (10 * 0 + (x.toNat - 48))
  have h5 : 10 ^ 19 ≤ 10 ^ xs.length := Nat.pow_le_pow_right (by decide) h
  have h6 : 10 ^ xs.length * 1 ≤ 10 ^ xs.length * (10 * 0 + (x.toNat - 48)) := Nat.mul_le_mul_left _ (by omega)
  omega
theorem text_Decimal_ret (z : Int) (h0 : -9223372036854775808 ≤ z) (h1 : z ≤ 9223372036854775807) : Ret lb F_text_Decimal [.int .i64 z] (.str (Lib.itoa z)) := by
  refine .top rfl (.eq (fun n => by rw [text_Decimal_eq]) ?_)
  refine .call (v := .str (Lib.itoa z)) (.lib rfl ?_) .done
  simp only [lib_Itoa, if_pos (And.intro h0 h1), itoaF_eq h0 h1]
theorem dig_piece : ∀ d, d < 10 → (([48, 49, 50, 51, 52, 53, 54, 55, 56, 57] : Bs).take (d + 1)).drop d = [UInt8.ofNat (48 + d)] := by decide +kernel
theorem r01_digits_ret : ∀ (N u : Nat), u ≤ N → u < 18446744073709551616 → Ret lb F_r01_digits [.int .u64 (u : Int)] (.str (Lib.decDigits u)) := by
  intro N
  induction N with
  | zero =>
    intro u hu _
    have : u = 0 := by omega
    subst this
    refine .top rfl (.all fun n => ?_)
    rw [r01_digits_eq, Lib.decDigits, dif_pos (by decide)]
    rfl
  | succ N ih =>
    intro u hu h64
    refine .top rfl (.eq (fun n => by rw [r01_digits_eq]) ?_)
    by_cases h : u < 10
    · simp only [decT (show (u : Int) < 10 by omega), cond_true, wrapu64 (x := (u : Int) + 1) (by omega) (by omega)]
      refine .chk (decT ⟨by omega, by omega⟩) (.chk (decT ⟨by omega, by omega⟩) ?_)
      rw [Lib.decDigits, dif_pos h, show ((u : Int) + 1).toNat = u + 1 by omega, Int.toNat_natCast, dig_piece u h]
      exact .done
    · simp only [decF (show ¬ (u : Int) < 10 by omega), cond_false]
      have e1 : IntKind.wrap .u64 (Int.tdiv (u : Int) 10) = ((u / 10 : Nat) : Int) := by
        rw [show Int.tdiv (u : Int) 10 = ((u / 10 : Nat) : Int) from rfl, wrapu64 (by omega) (by omega)]
      have e2 : Int.tmod (u : Int) 10 = ((u % 10 : Nat) : Int) := rfl
      have e3 : IntKind.wrap .u64 (((u % 10 : Nat) : Int) + 1) = ((u % 10 + 1 : Nat) : Int) := by rw [wrapu64 (by omega) (by omega)]; omega
      simp only [e1, e2, e3]
      refine .call (ih (u / 10) (by omega) (by omega)) ?_
      refine .chk (decT ⟨by omega, by omega⟩) (.chk (decT ⟨by omega, by omega⟩) ?_)
      simp only [optO_s, asS_s, Int.toNat_natCast, dig_piece _ (show u % 10 < 10 by omega)]
      rw [Lib.decDigits.eq_def u, dif_neg h]
      refine .chk (decT ?_) .done
      have := itoa_len (z := ((u / 10 : Nat) : Int)) (by omega) (by omega)
      unfold Lib.itoa at this
      rw [if_neg (by omega), Int.toNat_natCast] at this
      simp only [List.length_cons, List.length_nil]
      omega
theorem r01_Decimal_ret (z : Int) (h0 : -9223372036854775808 ≤ z) (h1 : z ≤ 9223372036854775807) : Ret lb F_r01_Decimal [.int .i64 z] (.str (Lib.itoa z)) := by
  refine .top rfl (.eq (fun n => by rw [r01_Decimal_eq]) ?_)
  unfold Lib.itoa
  by_cases h : z < 0
  · simp only [decT h, cond_true, if_pos h, wrap64 (x := z + 1) (by omega) (by omega), wrap64 (x := 0 - (z + 1)) (by omega) (by omega), wrapu64 (x := 0 - (z + 1)) (by omega) (by omega), wrapu64 (x := 0 - (z + 1) + 1) (by omega) (by omega)]
    rw [show 0 - (z + 1) + 1 = (z.natAbs : Int) by omega]
    refine .call (r01_digits_ret lb z.natAbs z.natAbs (Nat.le_refl _) (by omega)) ?_
    simp only [optO_s, asS_s]
    refine .chk (decT ?_) .done
    have := itoa_len h0 h1
    unfold Lib.itoa at this
    rw [if_pos h] at this
    simp only [List.length_cons, List.length_nil] at this ⊢
    omega
  · simp only [decF h, cond_false, if_neg h, wrapu64 (x := z) (by omega) (by omega)]
    have := r01_digits_ret lb z.toNat z.toNat (Nat.le_refl _) (by omega)
    rw [show ((z.toNat : Nat) : Int) = z by omega] at this
    exact .call this .done
end Go.Proofs
