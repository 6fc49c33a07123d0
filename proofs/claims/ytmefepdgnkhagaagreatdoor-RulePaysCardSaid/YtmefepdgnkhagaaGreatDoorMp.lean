/- Chapter 21 on plain data: percentages of amounts, by the program and by its reference. Conditions: as each says. -/
import Derived.Test.YtmefepdgnkhagaaGreatDoorMh
import Derived.Test.YtmefepdgnkhagaaGreatDoorHp
set_option linter.unusedVariables false
set_option linter.unusedSimpArgs false
namespace Go.Proofs
open Go.Am
variable (lb : Nat)
theorem wrapU {x : Int} (h0 : 0 ≤ x) (h1 : x < 18446744073709551616) : IntKind.wrap .u64 x = x := by
  unfold IntKind.wrap
  simp only [IntKind.bits, IntKind.signed]
  simp
  omega
theorem and32 {x : Int} (h0 : 0 ≤ x) (h1 : x < 18446744073709551616) : ((BitVec.ofInt 64 x &&& BitVec.ofInt 64 4294967295).toNat : Int) = x % 4294967296 := by
  obtain ⟨n, rfl⟩ : ∃ n : Nat, x = n := ⟨x.toNat, by omega⟩
  have e1 : (BitVec.ofInt 64 (n : Int)).toNat = n := by simp [BitVec.toNat_ofInt]; omega
  have e2 : (BitVec.ofInt 64 4294967295).toNat = 2 ^ 32 - 1 := by decide
  rw [BitVec.toNat_and, e1, e2, Nat.and_two_pow_sub_one_eq_mod]
  omega
theorem fdiv32 {x : Int} (h0 : 0 ≤ x) : Int.fdiv x (2 ^ 32) = x / 4294967296 := by
  rw [Int.fdiv_eq_ediv_of_nonneg _ (by decide)]
  rfl
theorem mul64_ret {x y : Int} (hx0 : 0 ≤ x) (hx1 : x ≤ 1099511627776) (hy0 : 0 ≤ y) (hy1 : y ≤ 100000) : Ret lb F_math_bits_Mul64 [.int .u64 x, .int .u64 y] (.tup [.int .u64 0, .int .u64 (x * y)]) := by
  refine .top rfl (.eq (fun n => by rw [math_bits_Mul64_eq]) (.all fun n => ?_))
  have fx := fdiv32 hx0
  have fy : Int.fdiv y (2 ^ 32) = 0 := by rw [fdiv32 hy0]; omega
  have ay : IntKind.wrap .u64 ((BitVec.ofInt 64 y &&& BitVec.ofInt 64 4294967295).toNat) = y := by rw [and32 hy0 (by omega), wrapU (by omega) (by omega)]; omega
  have ax : IntKind.wrap .u64 ((BitVec.ofInt 64 x &&& BitVec.ofInt 64 4294967295).toNat) = x % 4294967296 := by rw [and32 hx0 (by omega), wrapU (by omega) (by omega)]
  obtain ⟨x1, hx1d⟩ : ∃ z, z = x / 4294967296 := ⟨_, rfl⟩
  obtain ⟨x0, hx0d⟩ : ∃ z, z = x % 4294967296 := ⟨_, rfl⟩
  have b1 : 0 ≤ x1 ∧ x1 ≤ 256 := by omega
  have b0 : 0 ≤ x0 ∧ x0 < 4294967296 := by omega
  have p0 : 0 ≤ x0 * y := Int.mul_nonneg b0.1 hy0
  have p0' : x0 * y ≤ 4294967296 * y := Int.mul_le_mul_of_nonneg_right (by omega) hy0
  have p1 : 0 ≤ x1 * y := Int.mul_nonneg b1.1 hy0
  have p1' : x1 * y ≤ 256 * y := Int.mul_le_mul_of_nonneg_right (by omega) hy0
  have p2 : 0 ≤ x * y := Int.mul_nonneg hx0 hy0
  have p2' : x * y ≤ 1099511627776 * y := Int.mul_le_mul_of_nonneg_right hx1 hy0
  rw [fx, fy, ay, ax, ← hx1d, ← hx0d, Int.mul_zero, Int.mul_zero]
  have z : IntKind.wrap .u64 0 = 0 := by decide
  rw [z]
  have w0 : IntKind.wrap .u64 (x0 * y) = x0 * y := wrapU p0 (by omega)
  have w1 : IntKind.wrap .u64 (x1 * y) = x1 * y := wrapU p1 (by omega)
  rw [w0, w1, fdiv32 p0]
  obtain ⟨t, ht⟩ : ∃ z, z = x1 * y + x0 * y / 4294967296 := ⟨_, rfl⟩
  have bt : 0 ≤ t ∧ t < 4294967296 := by omega
  rw [← ht, wrapU (x := t) bt.1 (by omega), and32 bt.1 (by omega), wrapU (x := t % 4294967296) (by omega) (by omega), fdiv32 bt.1, wrapU (x := t % 4294967296 + 0) (by omega) (by omega), fdiv32 (by omega),
    wrapU (x := 0 + t / 4294967296) (by omega) (by omega), wrapU p2 (by omega), wrapU (by omega) (by omega)]
  rw [show 0 + t / 4294967296 + (t % 4294967296 + 0) / 4294967296 = 0 by omega]
theorem div64_ret {x y : Int} (hx0 : 0 ≤ x) (hx1 : x < 18446744073709551616) (hy : 0 < y) : Ret lb F_math_bits_Div64 [.int .u64 0, .int .u64 x, .int .u64 y] (.tup [.int .u64 (x / y), .int .u64 (x % y)]) := by
  refine .top rfl (.eq (fun n => by rw [math_bits_Div64_eq]) (.all fun n => ?_))
  refine stF (by simp; omega) ?_
  rw [math_bits_Div64_J1_eq]
  refine stF (decF (by omega)) ?_
  rw [math_bits_Div64_J2_eq]
  have hy' : (y != 0) = true := by simp; omega
  refine stT rfl (stC hy' (stC hy' ?_))
  have q0 : 0 ≤ x / y := Int.ediv_nonneg hx0 (by omega)
  have q1 : x / y ≤ x := Int.ediv_le_self y hx0
  rw [Int.tdiv_eq_ediv_of_nonneg hx0, Int.tmod_eq_emod_of_nonneg hx0, wrapU q0 (by omega)]
theorem msize_ret {a : Int} (h0 : -1099511627776 ≤ a) (h1 : a ≤ 1099511627776) : Ret lb F_money_size [.int .i64 a] (.int .u64 (if a < 0 then -a else a)) := by
  refine .top rfl (.eq (fun n => by rw [money_size_eq]) (.all fun n => ?_))
  by_cases h : a < 0
  · rw [decT h, if_pos h]
    have : IntKind.wrap .u64 (0 - IntKind.wrap .u64 a) = -a := by
      unfold IntKind.wrap
      simp only [IntKind.bits, IntKind.signed]
      simp
      omega
    rw [this]; rfl
  · rw [decF h, if_neg h, wrapU (x := a) (by omega) (by omega)]; rfl
theorem fits_ret (a : Int) : Ret lb F_money_fits [.int .i64 a] (.bool (decide (-1099511627776 ≤ a ∧ a ≤ 1099511627776))) := by
  refine .top rfl (.eq (fun n => by rw [money_fits_eq]) (.all fun n => ?_))
  by_cases h : a ≥ -1099511627776
  · rw [decT h]
    have : decide (-1099511627776 ≤ a ∧ a ≤ 1099511627776) = decide (a ≤ 1099511627776) := by congr 1; simp; omega
    rw [this]; rfl
  · rw [decF h, decF (show ¬ (-1099511627776 ≤ a ∧ a ≤ 1099511627776) from fun q => h q.1)]; rfl
theorem amount_ret (a : Int) : Ret lb F_r02_Amount [.int .i64 a] (.bool (decide (-1099511627776 ≤ a ∧ a ≤ 1099511627776))) := by
  refine .top rfl (.eq (fun n => by rw [r02_Amount_eq]) (.all fun n => ?_))
  by_cases h : a ≥ -1099511627776
  · rw [decT h]
    have : decide (-1099511627776 ≤ a ∧ a ≤ 1099511627776) = decide (a ≤ 1099511627776) := by congr 1; simp; omega
    rw [this]; rfl
  · rw [decF h, decF (show ¬ (-1099511627776 ≤ a ∧ a ≤ 1099511627776) from fun q => h q.1)]; rfl
theorem scale_ret {x y : Int} (hx0 : 0 ≤ x) (hx1 : x ≤ 1099511627776) (hy0 : 0 ≤ y) (hy1 : y ≤ 100000) : Ret lb F_money_scale [.int .u64 x, .int .u64 y, .int .u64 10000] (.tup [.int .u64 (x * y / 10000), .int .u64 (x * y % 10000), .bool true]) := by
  refine .top rfl (.eq (fun n => by rw [money_scale_eq]) ?_)
  have p2 : 0 ≤ x * y := Int.mul_nonneg hx0 hy0
  have p2' : x * y ≤ 1099511627776 * y := Int.mul_le_mul_of_nonneg_right hx1 hy0
  refine Evt.imp2 (mul64_ret lb hx0 hx1 hy0 hy1) (div64_ret lb (x := x * y) (y := 10000) p2 (by omega) (by omega)) fun n a b => ?_
  exact stO _ a (stO _ rfl (stO _ rfl (stO _ rfl (stO _ rfl (stO _ rfl (stF rfl (stO _ b (stO _ rfl (stO _ rfl (stO _ rfl (stO _ rfl rfl)))))))))))
/-- so much per cent of an amount, or the error -/
def pctAns (a h : Int) : CV :=
  if -1099511627776 ≤ a ∧ a ≤ 1099511627776 then
    (if -1099511627776 ≤ (a * h + 5000) / 10000 ∧ (a * h + 5000) / 10000 ≤ 1099511627776 then .tup [.int .i64 ((a * h + 5000) / 10000), .int .i64 0] else .tup [.int .i64 0, .int .i64 11])
  else .tup [.int .i64 0, .int .i64 11]
theorem money_Percent_ret (a : Int) {h : Int} (h0 : 0 ≤ h) (h1 : h ≤ 100000) : Ret lb F_money_Percent [.int .i64 a, .int .i64 h] (pctAns a h) := by
  refine .top rfl (.eq (fun n => by rw [money_Percent_eq]) ?_)
  have e1 := fits_ret lb a
  have e2 := fits_ret lb h
  rw [decT (show -1099511627776 ≤ h ∧ h ≤ 1099511627776 by omega)] at e2
  by_cases ha : -1099511627776 ≤ a ∧ a ≤ 1099511627776
  · rw [decT ha] at e1
    have e3 := msize_ret lb ha.1 ha.2
    have e4 := msize_ret lb (a := h) (by omega) (by omega)
    rw [if_neg (by omega)] at e4
    obtain ⟨k, hk⟩ : ∃ k, k = if a < 0 then -a else a := ⟨_, rfl⟩
    have hk0 : 0 ≤ k ∧ k ≤ 1099511627776 := by rw [hk]; split <;> omega
    rw [← hk] at e3
    have e5 := scale_ret lb hk0.1 hk0.2 h0 h1
    obtain ⟨N, hN⟩ : ∃ N, N = k * h := ⟨_, rfl⟩
    rw [← hN] at e5
    have hN0 : 0 ≤ N := by rw [hN]; exact Int.mul_nonneg hk0.1 h0
    have hN1 : N ≤ 1099511627776 * 100000 := by
      have := Int.mul_le_mul_of_nonneg_right hk0.2 h0
      omega
    have hNa : a * h = if a < 0 then -N else N := by
      rw [hN, hk]
      by_cases q : a < 0
      · rw [if_pos q, if_pos q, Int.neg_mul, Int.neg_neg]
      · rw [if_neg q, if_neg q]
    refine Evt.imp2 (Evt.and e1 (Evt.and e2 e3)) (Evt.and e4 e5) fun n ⟨x1, x2, x3⟩ ⟨x4, x5⟩ => ?_
    refine stO _ x1 (stO _ rfl (stF rfl (stO _ x2 (stO _ rfl (stF rfl (stO _ x3 (stO _ x4 (stO _ x5 (stO _ rfl (stO _ rfl (stO _ rfl (stO _ rfl (stO _ rfl (stO _ rfl (stO _ rfl ?_)))))))))))))))
    have fin1 : ∀ q, 0 ≤ q → q ≤ 1099511627776 * 20 → (a < 0 → -q = (a * h + 5000) / 10000) → (¬ a < 0 → q = (a * h + 5000) / 10000) →
        (bif (decide (q > 1099511627776)) then (some (.tup [.int .i64 0, .int .i64 11])) else (bif (!((decide (a < 0)) == (decide (h < 0)))) then (some (.tup [.int .i64 (IntKind.wrap .i64 (0 - (IntKind.wrap .i64 q))), .int .i64 0])) else (some (.tup [.int .i64 (IntKind.wrap .i64 q), .int .i64 0])))) = some (pctAns a h) := by
      intro q q0 q1 n1 n2
      unfold pctAns
      rw [if_pos ha, decF (show ¬ h < 0 by omega)]
      by_cases hq : q > 1099511627776
      · rw [decT hq, if_neg (by
          by_cases q : a < 0
          · have := n1 q; omega
          · have := n2 q; omega)]
        rfl
      · rw [decF hq, wrap64 (x := q) (by omega) (by omega)]
        by_cases hneg : a < 0
        · have := n1 hneg
          rw [if_pos (by omega), decT hneg, ← this, wrap64 (by omega) (by omega), Int.zero_sub]
          rfl
        · have := n2 hneg
          rw [if_pos (by omega), decF hneg, ← this]
          rfl
    have neg : (!(!((decide (a < 0)) == (decide (h < 0))))) = decide (¬ a < 0) := by
      rw [decF (show ¬ h < 0 by omega)]
      by_cases q : a < 0 <;> simp [q]
    have up : ∀ (x14 x17 r10 r7 r9 x12 : CV), x17 = .bool true → (N % 10000 > 5000 ∨ N % 10000 = 5000 ∧ ¬ a < 0) → money_Percent_J1 lb n a h x14 x17 r10 r7 r9 x12 (IntKind.wrap .u64 (N / 10000 + 1)) = some (pctAns a h) := by
      intro x14 x17 r10 r7 r9 x12 h17 hr
      rw [money_Percent_J1_eq, h17, wrapU (by omega) (by omega)]
      refine stO _ rfl (stF rfl (fin1 _ (by omega) (by omega) (fun q => ?_) (fun q => ?_)))
      · rw [hNa, if_pos q]; omega
      · rw [hNa, if_neg q]; omega
    have down : ∀ (x12 x14 x17 r10 r7 r9 : CV), x17 = .bool true → x12 = .int .u64 (N / 10000) → ¬ (N % 10000 > 5000 ∨ N % 10000 = 5000 ∧ ¬ a < 0) → money_Percent_J2 lb n a h x12 x14 x17 r10 r7 r9 = some (pctAns a h) := by
      intro x12 x14 x17 r10 r7 r9 h17 h12 hr
      have := fin1 (N / 10000) (by omega) (by omega) (fun q => by rw [hNa, if_pos q]; omega) (fun q => by rw [hNa, if_neg q]; omega)
      rw [money_Percent_J2_eq, h17, h12]
      exact stO _ rfl (stF rfl (stO _ rfl this))
    by_cases c1 : N % 10000 > 5000
    · exact stT (decT c1) (stO _ rfl (up _ _ _ _ _ _ rfl (.inl c1)))
    refine stF (decF c1) (stO _ rfl ?_)
    by_cases c2 : N % 10000 = 5000
    · refine stT (by rw [c2]; rfl) ?_
      rw [neg]
      by_cases q : a < 0
      · exact stF (decF (by omega)) (down _ _ _ _ _ _ rfl rfl (by omega))
      · exact stT (decT q) (stO _ rfl (up _ _ _ _ _ _ rfl (.inr ⟨c2, q⟩)))
    · exact stF (by simpa using c2) (down _ _ _ _ _ _ rfl rfl (by omega))
  · rw [decF ha] at e1
    unfold pctAns
    rw [if_neg ha]
    exact e1.mono fun n x1 => stO _ x1 (stO _ rfl (stT rfl rfl))
theorem floor_arith {a b q r : Int} (hb : b = 10000 ∨ b = 20000) (e1 : b * q + r = a) (e2 : r < b) (e3 : -b < r) (e4 : 0 ≤ a → 0 ≤ r) (e5 : a ≤ 0 → r ≤ 0) (h0 : -9000000000000000000 ≤ a) (h1 : a ≤ 9000000000000000000) :
    (r < 0 → a / b = q - 1 ∧ a % b = r + b) ∧ (¬ r < 0 → a / b = q ∧ a % b = r) ∧ (-9000000000000000000 ≤ q ∧ q ≤ 9000000000000000000) := by
  rcases hb with rfl | rfl
  · refine ⟨fun h => ?_, fun h => ?_, ?_⟩ <;> omega
  · refine ⟨fun h => ?_, fun h => ?_, ?_⟩ <;> omega
theorem floor_ret {a b : Int} (hb : b = 10000 ∨ b = 20000) (h0 : -9000000000000000000 ≤ a) (h1 : a ≤ 9000000000000000000) : Ret lb F_r02_floor [.int .i64 a, .int .i64 b] (.tup [.int .i64 (a / b), .int .i64 (a % b)]) := by
  refine .top rfl (.eq (fun n => by rw [r02_floor_eq]) (.all fun n => ?_))
  have hb0 : (b != 0) = true := by rcases hb with rfl | rfl <;> rfl
  refine stC hb0 (stC hb0 ?_)
  have e1 := Int.mul_tdiv_add_tmod a b
  have e2 : Int.tmod a b < b := Int.tmod_lt_of_pos a (by omega)
  have e3 : -b < Int.tmod a b := by
    by_cases q : 0 ≤ a
    · have := Int.tmod_nonneg b q; omega
    · have h3 := Int.neg_tmod a b
      have h4 : Int.tmod (-a) b < b := Int.tmod_lt_of_pos _ (by omega)
      omega
  have e4 : 0 ≤ a → 0 ≤ Int.tmod a b := fun q => Int.tmod_nonneg b q
  have e5 : a ≤ 0 → Int.tmod a b ≤ 0 := fun q => by
    have h3 := Int.neg_tmod a b
    have h4 : 0 ≤ Int.tmod (-a) b := Int.tmod_nonneg b (by omega)
    omega
  obtain ⟨f1, f2, f3⟩ := floor_arith hb e1 e2 e3 e4 e5 h0 h1
  by_cases hneg : Int.tmod a b < 0
  · refine stT (decT hneg) ?_
    rw [(f1 hneg).1, (f1 hneg).2, wrap64 (x := Int.tdiv a b) (by omega) (by omega), wrap64 (x := Int.tdiv a b - 1) (by omega) (by omega), wrap64 (x := Int.tmod a b + b) (by omega) (by omega)]
  · refine stF (decF hneg) ?_
    rw [(f2 hneg).1, (f2 hneg).2, wrap64 (x := Int.tdiv a b) (by omega) (by omega)]
theorem rsize_ret {a : Int} (h0 : -1099511627776 ≤ a) (h1 : a ≤ 1099511627776) : Ret lb F_r02_size [.int .i64 a] (.int .i64 (if a < 0 then -a else a)) := by
  refine .top rfl (.eq (fun n => by rw [r02_size_eq]) (.all fun n => ?_))
  by_cases h : a < 0
  · rw [decT h, if_pos h, wrap64 (by omega) (by omega), Int.zero_sub]; rfl
  · rw [decF h, if_neg h]; rfl
theorem r02_Percent_ret (a : Int) {h : Int} (h0 : 0 ≤ h) (h1 : h ≤ 100000) : Ret lb F_r02_Percent [.int .i64 a, .int .i64 h] (pctAns a h) := by
  refine .top rfl (.eq (fun n => by rw [r02_Percent_eq]) ?_)
  have e1 := amount_ret lb a
  have e2 := amount_ret lb h
  rw [decT (show -1099511627776 ≤ h ∧ h ≤ 1099511627776 by omega)] at e2
  by_cases ha : -1099511627776 ≤ a ∧ a ≤ 1099511627776
  · rw [decT ha] at e1
    have e3 := floor_ret lb (a := h) (.inl rfl) (by omega) (by omega)
    obtain ⟨w, hw⟩ : ∃ w, w = h / 10000 := ⟨_, rfl⟩
    obtain ⟨t, ht⟩ : ∃ t, t = h % 10000 := ⟨_, rfl⟩
    have hwt : h = 10000 * w + t ∧ 0 ≤ w ∧ w ≤ 10 ∧ 0 ≤ t ∧ t < 10000 := by omega
    rw [← hw, ← ht] at e3
    obtain ⟨X, hX⟩ : ∃ X, X = a * w := ⟨_, rfl⟩
    obtain ⟨Y, hY⟩ : ∃ Y, Y = a * t := ⟨_, rfl⟩
    have hXY : a * h = 10000 * X + Y := by rw [hwt.1, hX, hY, Int.mul_add, Int.mul_left_comm]
    have bX : -10995116277760 ≤ X ∧ X ≤ 10995116277760 := by
      have q1 := Int.mul_le_mul_of_nonneg_right ha.2 hwt.2.1
      have q2 := Int.mul_le_mul_of_nonneg_right ha.1 hwt.2.1
      omega
    have bY : -10995116277760000 ≤ Y ∧ Y ≤ 10995116277760000 := by
      have q1 := Int.mul_le_mul_of_nonneg_right ha.2 hwt.2.2.2.1
      have q2 := Int.mul_le_mul_of_nonneg_right ha.1 hwt.2.2.2.1
      omega
    have w2 : IntKind.wrap .i64 (IntKind.wrap .i64 (IntKind.wrap .i64 (2 * a) * t) + 10000) = 2 * Y + 10000 := by
      rw [wrap64 (x := 2 * a) (by omega) (by omega), Int.mul_assoc, ← hY, wrap64 (x := 2 * Y) (by omega) (by omega), wrap64 (by omega) (by omega)]
    have e4 := floor_ret lb (a := 2 * Y + 10000) (.inr rfl) (by omega) (by omega)
    have w3 : IntKind.wrap .i64 (IntKind.wrap .i64 (a * w) + (2 * Y + 10000) / 20000) = (a * h + 5000) / 10000 := by
      rw [← hX, wrap64 (x := X) (by omega) (by omega), wrap64 (by omega) (by omega), hXY]; omega
    have e5 := amount_ret lb ((a * h + 5000) / 10000)
    have tail : ∀ n, C lb n F_r02_floor [.int .i64 (2 * Y + 10000), .int .i64 20000] = some (.tup [.int .i64 ((2 * Y + 10000) / 20000), .int .i64 ((2 * Y + 10000) % 20000)]) →
        C lb n F_r02_Amount [.int .i64 ((a * h + 5000) / 10000)] = some (.bool (decide (-1099511627776 ≤ (a * h + 5000) / 10000 ∧ (a * h + 5000) / 10000 ≤ 1099511627776))) →
        (optO (CV.asI .i64 (.int .i64 t)) fun i18 => optO (C lb n F_r02_floor [.int .i64 (IntKind.wrap .i64 (IntKind.wrap .i64 (IntKind.wrap .i64 (2 * a) * i18) + 10000)), .int .i64 20000]) fun r19 => optO (CV.asT r19) fun t20 => optO (t20[0]?) fun x21 => optO (CV.asT r19) fun t22 => optO (t22[1]?) fun x23 =>
          optO (CV.asI .i64 (.int .i64 w)) fun i24 => optO (CV.asI .i64 x21) fun i25 => optO (C lb n F_r02_Amount [.int .i64 (IntKind.wrap .i64 (IntKind.wrap .i64 (a * i24) + i25))]) fun r26 => optO (CV.asB r26) fun b27 => bif (!b27) then (some (.tup [.int .i64 0, .int .i64 11])) else
          (optO (CV.asI .i64 (.int .i64 w)) fun i28 => optO (CV.asI .i64 x21) fun i29 => some (.tup [.int .i64 (IntKind.wrap .i64 (IntKind.wrap .i64 (a * i28) + i29)), .int .i64 0]))) = some (pctAns a h) := by
      intro n x4 x5
      refine stO _ (asI_i ..) ?_
      rw [w2]
      refine stO _ x4 (stO _ rfl (stO _ rfl (stO _ rfl (stO _ rfl (stO _ (asI_i ..) (stO _ (asI_i ..) ?_))))))
      rw [w3]
      refine stO _ x5 (stO _ rfl ?_)
      unfold pctAns
      rw [if_pos ha]
      by_cases q : -1099511627776 ≤ (a * h + 5000) / 10000 ∧ (a * h + 5000) / 10000 ≤ 1099511627776
      · rw [decT q, if_pos q]
        refine stF rfl (stO _ (asI_i ..) (stO _ (asI_i ..) ?_))
        rw [w3]
      · rw [decF q, if_neg q]
        exact stT rfl rfl
    by_cases hz : a = 0
    · refine Evt.imp2 (Evt.and e1 (Evt.and e2 e3)) (Evt.and e4 e5) fun n ⟨x1, x2, x3⟩ ⟨x4, x5⟩ => ?_
      refine stO _ x1 (stO _ rfl (stF rfl (stO _ x2 (stO _ rfl (stF rfl (stO _ x3 (stO _ rfl (stO _ rfl (stO _ rfl (stO _ rfl (stF (by rw [hz]; rfl) ?_)))))))))))
      exact tail n x4 x5
    · have e6 := rsize_ret lb ha.1 ha.2
      have e7 := rsize_ret lb (a := w) (by omega) (by omega)
      rw [if_neg (by omega)] at e7
      obtain ⟨k, hk⟩ : ∃ k, k = if a < 0 then -a else a := ⟨_, rfl⟩
      have hk0 : 0 < k ∧ k ≤ 1099511627776 := by rw [hk]; split <;> omega
      rw [← hk] at e6
      refine Evt.imp2 (Evt.and e1 (Evt.and e2 e3)) (Evt.and (Evt.and e4 e5) (Evt.and e7 e6)) fun n ⟨x1, x2, x3⟩ ⟨⟨x4, x5⟩, x7, x6⟩ => ?_
      refine stO _ x1 (stO _ rfl (stF rfl (stO _ x2 (stO _ rfl (stF rfl (stO _ x3 (stO _ rfl (stO _ rfl (stO _ rfl (stO _ rfl (stT (by simpa using hz) (stO _ x7 (stO _ x6 (stO _ (asI_i ..) (stC (by simp; omega) (stO _ (asI_i ..) ?_))))))))))))))))
      have hd0 : 0 ≤ (2199023255552 : Int) / k := Int.ediv_nonneg (by decide) (by omega)
      have hd1 : (2199023255552 : Int) / k ≤ 2199023255552 := Int.ediv_le_self k (by decide)
      rw [Int.tdiv_eq_ediv_of_nonneg (by decide), wrap64 (by omega) (by omega)]
      by_cases c : w > 2199023255552 / k
      · refine stT (decT c) ?_
        have h3 : (2199023255552 : Int) < w * k := Int.lt_mul_of_ediv_lt hk0.1 c
        have h4 : X = if a < 0 then -(w * k) else w * k := by
          rw [hX, hk]
          by_cases q : a < 0
          · rw [if_pos q, if_pos q, Int.mul_neg, Int.neg_neg, Int.mul_comm]
          · rw [if_neg q, if_neg q, Int.mul_comm]
        have h5 : a < 0 → Y ≤ 0 := fun q => by
          have := Int.mul_le_mul_of_nonneg_right (show a ≤ 0 by omega) hwt.2.2.2.1
          omega
        have h6 : ¬ a < 0 → 0 ≤ Y := fun q => by rw [hY]; exact Int.mul_nonneg (by omega) hwt.2.2.2.1
        unfold pctAns
        rw [if_pos ha, if_neg]
        rw [hXY]
        by_cases q : a < 0
        · have := h5 q; rw [if_pos q] at h4; omega
        · have := h6 q; rw [if_neg q] at h4; omega
      · exact stF (decF c) (tail n x4 x5)
  · rw [decF ha] at e1
    unfold pctAns
    rw [if_neg ha]
    exact e1.mono fun n x1 => stO _ x1 (stO _ rfl (stT rfl rfl))

/-- what a passenger type pays -/
def payAns (s : Bs) (a : Int) : List (Bs × Int) → CV
  | [] => pctAns a 10000
  | p :: t => if p.1 = s then pctAns a (100 * p.2) else payAns s a t
theorem pctAns_tup (a h : Int) : ∃ x e, pctAns a h = .tup [.int .i64 x, .int .i64 e] := by
  unfold pctAns
  split
  · split <;> exact ⟨_, _, rfl⟩
  · exact ⟨_, _, rfl⟩
theorem payAns_tup (s : Bs) (a : Int) : ∀ l, ∃ x e, payAns s a l = .tup [.int .i64 x, .int .i64 e]
  | [] => pctAns_tup _ _
  | p :: t => by
    unfold payAns
    split
    · exact pctAns_tup _ _
    · exact payAns_tup s a t
theorem give2 {x e : CV} {r : Option CV} (h : r = some (CV.tup [x, e])) : (optO r fun r52 => optO (CV.asT r52) fun t53 => optO (t53[0]?) fun x54 => optO (CV.asT r52) fun t55 => optO (t55[1]?) fun x56 => some (CV.tup [x54, x56])) = some (CV.tup [x, e]) := by
  rw [h]; rfl
theorem pctFt_nil : ∀ (l p : List (Bs × Int)), pctFt p l = [] → ∀ q ∈ l, 0 ≤ q.2 ∧ q.2 ≤ 1000
  | [], p, _, q, hq => by cases hq
  | x :: t, p, h, q, hq => by
    rw [pctFt] at h
    obtain ⟨h1, h2⟩ := List.append_eq_nil_iff.1 h
    rcases List.mem_cons.1 hq with rfl | hq
    · unfold pctT at h1
      have h3 := (List.append_eq_nil_iff.1 (List.append_eq_nil_iff.1 h1).2).2
      by_cases c : q.2 < 0 ∨ q.2 > 1000
      · rw [if_pos c] at h3; cases h3
      · omega
    · exact pctFt_nil t _ h2 q hq
theorem chkR_pc {r : Ru} (h : chkR r = []) : ∀ q ∈ r.pc, 0 ≤ q.2 ∧ q.2 ≤ 1000 := by
  unfold chkR at h
  exact pctFt_nil r.pc [] (List.append_eq_nil_iff.1 (List.append_eq_nil_iff.1 (List.append_eq_nil_iff.1 (List.append_eq_nil_iff.1 (List.append_eq_nil_iff.1 (List.append_eq_nil_iff.1 h).2).2).2).2).2).2
end Go.Proofs
