/- What the functions of package text and of its reference answer: numbers. Conditions: as each says. -/
import Derived.Test.YtdcpdknginpohaaGreatDoorRc
set_option linter.unusedSimpArgs false
namespace Go.Proofs
open Go.Am
variable (lb : Nat)
theorem wrapu64 {x : Int} (h0 : 0 ≤ x) (h1 : x < 18446744073709551616) : IntKind.wrap .u64 x = x := by
  unfold IntKind.wrap
  simp only [IntKind.bits, IntKind.signed]
  simp
  omega
theorem trim_unsign (s : Bs) : Lib.trimPrefix s [45] = unsign s := by
  cases s with
  | nil => rfl
  | cons c r =>
    unfold Lib.trimPrefix Lib.hasPrefix unsign
    by_cases h : c = 45
    · subst h; simp
    · have : ¬ (45 : UInt8) = c := fun q => h q.symm
      simp [h, this]
def pairR (p : Int × Int) : CV := .tup [.int .i64 p.1, .int .i64 p.2]
def numR (s : Bs) : CV := pairR (numB s)
def numV (neg : Bool) (v : Nat) : Int × Int := bif neg then (if v ≤ 9223372036854775808 then (-(v : Int), 0) else (0, 4)) else (if v < 9223372036854775808 then ((v : Int), 0) else (0, 4))
theorem numV_nl {v : Nat} (h : v ≤ 9223372036854775808) : numV true v = (-(v : Int), 0) := by unfold numV; rw [cond_true, if_pos h]
theorem numV_nh {v : Nat} (h : ¬ v ≤ 9223372036854775808) : numV true v = (0, 4) := by unfold numV; rw [cond_true, if_neg h]
theorem numV_pl {v : Nat} (h : v < 9223372036854775808) : numV false v = ((v : Int), 0) := by unfold numV; rw [cond_false, if_pos h]
theorem numV_ph {v : Nat} (h : ¬ v < 9223372036854775808) : numV false v = (0, 4) := by unfold numV; rw [cond_false, if_neg h]
theorem numB_bad {s : Bs} (h : unsign s = [] ∨ (unsign s).all isDg = false ∨ ((unsign s).head? = some 48 ∧ s ≠ [48])) : numB s = (0, 3) := by unfold numB; rw [if_pos h]
theorem numB_good {s : Bs} (h1 : unsign s ≠ []) (h2 : (unsign s).all isDg = true) (h3 : ¬ ((unsign s).head? = some 48 ∧ s ≠ [48])) : numB s = numV (signed s) (valF 0 (unsign s)) := by
  unfold numB numV
  rw [if_neg (by
    rintro (q | q | q)
    · exact h1 q
    · rw [h2] at q; cases q
    · exact h3 q)]
  cases signed s <;> rfl
theorem pairR_eq (a b : Int) : some (CV.tup [.int .i64 a, .int .i64 b]) = some (pairR (a, b)) := rfl
theorem atoi_val (s : Bs) (h1 : unsign s ≠ []) (h2 : (unsign s).all isDg = true) : Lib.atoiAll s =
    (if signed s then (if valF 0 (unsign s) ≤ 9223372036854775808 then .ok (-(valF 0 (unsign s) : Int)) else .range) else (if valF 0 (unsign s) < 9223372036854775808 then .ok (valF 0 (unsign s) : Int) else .range)) := by
  match s, h1, h2 with
  | [], h1, _ => exact (h1 rfl).elim
  | c :: r, h1, h2 =>
    have key : (if c.toNat = 43 ∨ c.toNat = 45 then r else c :: r) = unsign (c :: r) := by
      by_cases h : c = 45
      · subst h; rfl
      · have h45 : c.toNat ≠ 45 := fun q => h (u8_ext q)
        have e : unsign (c :: r) = c :: r := by simp [unsign, h]
        rw [e] at h2 ⊢
        simp only [List.all_cons, Bool.and_eq_true, isDg, decide_eq_true_eq] at h2
        rw [if_neg (by omega)]
    unfold Lib.atoiAll
    simp only [key]
    unfold Lib.parseMag
    rw [if_neg h1, parse_val _ _ h2 (by decide)]
    have hs : signed (c :: r) = decide (c.toNat = 45) := by
      unfold signed
      by_cases h : c = 45
      · subst h; rfl
      · have h45 : c.toNat ≠ 45 := fun q => h (u8_ext q)
        simp [h, h45]
    rw [hs]
    generalize valF 0 (unsign (c :: r)) = v
    by_cases hv : v < 18446744073709551616
    · rw [if_pos hv]
      by_cases hn : c.toNat = 45
      · simp only [hn, not_true_eq_false, false_and, if_false, true_and, decide_true, if_true]
        by_cases h5 : 9223372036854775808 < v
        · rw [if_pos h5, if_neg (by omega)]
        · rw [if_neg h5, if_pos (by omega)]
      · simp only [hn, not_false_eq_true, true_and, false_and, if_false, decide_false, Bool.false_eq_true]
        by_cases h5 : 9223372036854775808 ≤ v
        · rw [if_pos h5, if_neg (by omega)]
        · rw [if_neg h5, if_pos (by omega)]
    · rw [if_neg hv]
      simp only
      split
      · rw [if_neg (by omega)]
      · rw [if_neg (by omega)]
theorem text_Number_ret (s : Bs) (hs : s.length ≤ 1000000000) : Ret (lb + 1) F_text_Number [.str s] (numR s) := by
  refine .top rfl (.eq (fun n => by rw [text_Number_eq]) ?_)
  have ht : Ret (lb + 1) F_strings_TrimPrefix [.str s, .str [45]] (.str (unsign s)) := .lib rfl (by simp [lib_TrimPrefix, trim_unsign])
  have hul : (unsign s).length ≤ s.length := by
    cases s with
    | nil => simp [unsign]
    | cons c r => simp only [unsign]; split <;> simp
  refine .call ht ?_
  simp only [optO_s, asS_s]
  unfold numR
  by_cases h1 : unsign s = []
  · rw [numB_bad (.inl h1)]
    simp only [h1, show (([] : Bs) == []) = true from rfl, cond_true]
    exact .of (pairR_eq _ _)
  simp only [show (unsign s == []) = false by simpa using h1, cond_false]
  refine .call (every_text_digit_ret (lb + 1) (unsign s) (by omega)) ?_
  simp only [optO_s, asB_b]
  cases h2 : (unsign s).all isDg with
  | false =>
    rw [numB_bad (.inr (.inl h2))]
    simp only [Bool.not_false, cond_true]
    exact .of (pairR_eq _ _)
  | true =>
    simp only [Bool.not_true, cond_false]
    obtain ⟨x, xs, hx⟩ := List.exists_cons_of_ne_nil h1
    have hat : atS (unsign s) 0 = some x := by rw [hx]; rfl
    have hatoi : Ret (lb + 1) F_strconv_Atoi [.str s] (match Lib.atoiAll s with
      | .ok v => .tup [.int .i64 v, .nilif]
      | .range => .tup [.int .i64 (Lib.atoiSat s), .err]
      | _ => .tup [.int .i64 0, .err]) := by
      refine .lib rfl ?_
      unfold lib_Atoi
      simp only
      rw [if_pos (by omega)]
      cases Lib.atoiAll s <;> rfl
    have rest : Evt fun n => (optO (C (lb + 1) n F_strconv_Atoi [.str s]) fun r15 => optO (CV.asT r15) fun t17 => optO (t17[0]?) fun x18 => optO (CV.asT r15) fun t19 => optO (t19[1]?) fun x20 => optO (CV.asE x20) fun e21 =>
        bif (!e21) then (some (.tup [.int .i64 0, .int .i64 4])) else (some (.tup [x18, .int .i64 0]))) = some (pairR (numV (signed s) (valF 0 (unsign s)))) := by
      refine .call hatoi ?_
      rw [atoi_val s h1 h2]
      generalize valF 0 (unsign s) = v
      cases hs : signed s with
      | true =>
        rw [if_pos rfl]
        by_cases hv : v ≤ 9223372036854775808
        · rw [if_pos hv, numV_nl hv]
          simp only [asT_t, get0, get1, asE_n, optO_s, Bool.not_true, cond_false]
          exact .of (pairR_eq _ _)
        · rw [if_neg hv, numV_nh hv]
          simp only [asT_t, get0, get1, asE_e, optO_s, Bool.not_false, cond_true]
          exact .of (pairR_eq _ _)
      | false =>
        rw [if_neg (by decide)]
        by_cases hv : v < 9223372036854775808
        · rw [if_pos hv, numV_pl hv]
          simp only [asT_t, get0, get1, asE_n, optO_s, Bool.not_true, cond_false]
          exact .of (pairR_eq _ _)
        · rw [if_neg hv, numV_ph hv]
          simp only [asT_t, get0, get1, asE_e, optO_s, Bool.not_false, cond_true]
          exact .of (pairR_eq _ _)
    simp only [hat, optO_s]
    by_cases h48 : x = 48
    · simp only [beqT (show (x.toNat : Int) = 48 by rw [h48]; rfl), cond_true]
      by_cases h3 : s = [48]
      · have e : (!(s == [48])) = false := by rw [h3]; rfl
        simp only [e, cond_false]
        rw [numB_good h1 h2 (by rintro ⟨_, q⟩; exact q h3)]
        exact rest
      · have e : (!(s == [48])) = true := by simpa using h3
        simp only [e, cond_true]
        rw [numB_bad (.inr (.inr ⟨by rw [hx, h48]; rfl, h3⟩))]
        exact .of (pairR_eq _ _)
    · have h48' : x.toNat ≠ 48 := fun q => h48 (u8_ext q)
      simp only [beqF (show (x.toNat : Int) ≠ 48 by omega), cond_false]
      rw [numB_good h1 h2 (by rw [hx]; simp [h48])]
      exact rest
theorem valF_lt19 {d : Bs} (h : d.all isDg = true) (hl : d.length ≤ 19) : valF 0 d < 10000000000000000000 := by
  have h1 := valF_lt d 0 h
  have h2 : 10 ^ d.length ≤ 10 ^ 19 := Nat.pow_le_pow_right (by decide) hl
  omega
/-- the end of the reference's reading -/
theorem rnum_fin (n : Nat) (s d : Bs) (c : UInt8) (i j : Int) (v : Nat) (hv : v < 18446744073709551616) (hpos : c.toNat = 45 → 1 ≤ v) : r01_Number_J5 lb n s c d i (v : Int) j =
    some (pairR (numV (decide (c.toNat = 45)) v)) := by
  rw [r01_Number_J5_eq]
  by_cases h : c.toNat = 45
  · have := hpos h
    simp only [beqT (show (c.toNat : Int) = 45 by omega), cond_true, decT h]
    by_cases h2 : v ≤ 9223372036854775808
    · rw [decT (by omega), cond_true, numV_nl h2, wrapu64 (by omega) (by omega), wrap64 (x := (v : Int) - 1) (by omega) (by omega), wrap64 (x := 0 - ((v : Int) - 1)) (by omega) (by omega), wrap64 (by omega) (by omega),
        show 0 - ((v : Int) - 1) - 1 = -(v : Int) by omega]
      exact pairR_eq _ _
    · rw [decF (by omega), cond_false, numV_nh h2]
      exact pairR_eq _ _
  · simp only [beqF (show (c.toNat : Int) ≠ 45 by omega), cond_false, decF h]
    by_cases h2 : v < 9223372036854775808
    · rw [decF (by omega), cond_false, numV_pl h2, wrap64 (by omega) (by omega)]
      exact pairR_eq _ _
    · rw [decT (by omega), cond_true, numV_ph h2]
      exact pairR_eq _ _
theorem rnum_val (s d : Bs) (c : UInt8) (i : Int) (hd : d.all isDg = true) (hl : d.length ≤ 19) (hpos : c.toNat = 45 → 1 ≤ valF 0 d) : Evt fun n => r01_Number_L4 lb n n s c d i 0 0 = some (pairR (numV (decide (c.toNat = 45)) (valF 0 d))) := by
  have hlt := valF_lt19 hd hl
  refine Evt.diag (m := d.length) (loopS (s := d) (by omega) (P := fun p _ n k => r01_Number_L4 lb n k s c d i (valF 0 p : Int) (p.length : Int) = some (pairR (numV (decide (c.toNat = 45)) (valF 0 d)))) ?_ ?_ d [] rfl)
  · refine .all fun n k => ?_
    rw [r01_Number_L4_succ, decF (by omega), cond_false, rnum_fin lb n s d c i _ _ (by omega) hpos]
  · intro p x t hp hlt' hat hw hev
    refine hev.mono fun n hn k hk => ?_
    have hn := hn k hk
    rw [valF_snoc, ← hw] at hn
    have hpx : (p ++ [x]).all isDg = true ∧ (p ++ [x]).length ≤ 19 := by
      rw [← hp, show p ++ x :: t = (p ++ [x]) ++ t by simp] at hd hl
      rw [List.all_append, Bool.and_eq_true] at hd
      rw [List.length_append] at hl
      exact ⟨hd.1, by omega⟩
    have hv := valF_lt19 hpx.1 hpx.2
    rw [valF_snoc] at hv
    have hx : 48 ≤ x.toNat ∧ x.toNat ≤ 57 := by
      have := hpx.1
      rw [List.all_append, Bool.and_eq_true] at this
      simpa [isDg] using this.2
    rw [r01_Number_L4_succ, decT hlt', cond_true, hat, optO_s, wrapu64 (x := 10 * (valF 0 p : Int)) (by omega) (by omega)]
    have e8 : IntKind.wrap .u8 ((x.toNat : Int) - 48) = (x.toNat : Int) - 48 := by
      unfold IntKind.wrap
      simp only [IntKind.bits, IntKind.signed]
      simp
      omega
    rw [e8, wrapu64 (x := (x.toNat : Int) - 48) (by omega) (by omega), wrapu64 (by omega) (by omega), show 10 * (valF 0 p : Int) + ((x.toNat : Int) - 48) = ((10 * valF 0 p + (x.toNat - 48) : Nat) : Int) by omega]
    exact hn
theorem rnum_digits (s d : Bs) (c : UInt8) (hl : d.length ≤ 1000000000) {r : CV} (hr : d.all isDg = true → Evt fun n => r01_Number_J3 lb n s c d (d.length : Int) = some r) (hr2 : d.all isDg = false → r = .tup [.int .i64 0, .int .i64 3]) :
    Evt fun n => r01_Number_L2 lb n n s c d 0 = some r := by
  have step : ∀ t p, p ++ t = d → p.all isDg = true → Evt fun n => ∀ k, t.length < k → r01_Number_L2 lb n k s c d (p.length : Int) = some r := by
    intro t
    induction t with
    | nil =>
      intro p hp hpd
      have : p = d := by simpa using hp
      subst this
      refine (hr hpd).mono fun n hn k hk => ?_
      obtain ⟨k, rfl⟩ : ∃ m, k = m + 1 := ⟨k - 1, by simp at hk; omega⟩
      rw [r01_Number_L2_succ, decF (by omega), cond_false, hn]
    | cons x t ih =>
      intro p hp hpd
      have hlen : d.length = p.length + (t.length + 1) := by rw [← hp]; simp
      have hat : atS d (p.length : Int) = some x := atS_ok (by rw [← hp]; simp)
      cases hx : isDg x with
      | false =>
        have hdd : d.all isDg = false := by rw [← hp, List.all_append, List.all_cons, hx]; simp
        refine (r01_digit_ret lb x).mono fun n hn k hk => ?_
        obtain ⟨k, rfl⟩ : ∃ m, k = m + 1 := ⟨k - 1, by simp at hk; omega⟩
        rw [r01_Number_L2_succ, decT (by omega), cond_true, hat, optO_s, hn, optO_s, asB_b, optO_s, hx, hr2 hdd]
        rfl
      | true =>
        refine (ih (p ++ [x]) (by rw [← hp]; simp) (by rw [List.all_append, hpd]; simp [hx])).imp2 (r01_digit_ret lb x) fun n hi hn k hk => ?_
        obtain ⟨k, rfl⟩ : ∃ m, k = m + 1 := ⟨k - 1, by simp at hk; omega⟩
        have hi := hi k (by simp at hk; omega)
        rw [r01_Number_L2_succ, decT (by omega), cond_true, hat, optO_s, hn, optO_s, asB_b, optO_s, hx, Bool.not_true, cond_false, wrap64 (by omega) (by omega), show (p.length : Int) + 1 = ((p ++ [x]).length : Int) by simp]
        exact hi
  exact Evt.diag (step d [] rfl rfl)
theorem big_val {x : UInt8} {xs : Bs} (hc : canon (x :: xs)) (h : 19 ≤ xs.length) : 10000000000000000000 ≤ valF 0 (x :: xs) := by
  obtain ⟨_, hd, h3⟩ := hc
  have hx48 : x.toNat ≠ 48 := fun q => by
    have := h3 (by rw [show x = 48 from u8_ext q]; rfl)
    simp only [List.cons.injEq] at this
    rw [this.2] at h; simp at h
  simp only [List.all_cons, Bool.and_eq_true, isDg, decide_eq_true_eq] at hd
  rw [valF_cons]
  have h4 := valF_pow xs (10 * 0 + (x.toNat - 48))
  have h5 : 10 ^ 19 ≤ 10 ^ xs.length := Nat.pow_le_pow_right (by decide) h
  have h6 : 10 ^ xs.length * 1 ≤ 10 ^ xs.length * (10 * 0 + (x.toNat - 48)) := Nat.mul_le_mul_left _ (by omega)
  omega
theorem rnum_main (s d : Bs) (c : UInt8) (hun : unsign s = d) (hsg : signed s = decide (c.toNat = 45)) (h45d : c.toNat ≠ 45 → d = s) (hhd : s.head? = some c) (hl : d.length ≤ 1000000000) : Evt fun n => r01_Number_J1 lb n s c d = some (pairR (numB s)) := by
  refine .eq (fun n => by rw [r01_Number_J1_eq]) ?_
  by_cases h1 : d = []
  · rw [numB_bad (.inl (by rw [hun, h1]))]
    simp only [h1, show (([] : Bs) == []) = true from rfl, cond_true]
    exact .of (pairR_eq _ _)
  simp only [show (d == []) = false by simpa using h1, cond_false]
  obtain ⟨x, xs, hx⟩ := List.exists_cons_of_ne_nil h1
  have hat : atS d 0 = some x := by rw [hx]; rfl
  simp only [hat, optO_s]
  have rest : ¬ (d.head? = some 48 ∧ s ≠ [48]) → Evt fun n => r01_Number_L2 lb n n s c d 0 = some (pairR (numB s)) := by
    intro hno
    refine rnum_digits lb s d c hl (fun hd => ?_) fun hd => ?_
    · have hs48 : d.head? = some 48 → s = [48] := fun q => Decidable.byContradiction fun q2 => hno ⟨q, q2⟩
      have hcan : canon d := ⟨h1, hd, fun q => by
        have := hs48 q
        rw [← hun, this]; rfl⟩
      rw [numB_good (by rw [hun]; exact h1) (by rw [hun]; exact hd) (by rw [hun]; exact hno), hsg, hun]
      refine .eq (fun n => by rw [r01_Number_J3_eq]) ?_
      by_cases h19 : d.length ≤ 19
      · simp only [decF (show ¬ (d.length : Int) > 19 by omega), cond_false]
        refine rnum_val lb s d c _ hd h19 fun h45 => ?_
        refine Decidable.byContradiction fun hz => ?_
        have hz : valF 0 d = 0 := by omega
        have := canon_eq _ _ rfl hcan
        rw [hz, Lib.decDigits, dif_pos (by decide)] at this
        have h2 := hs48 (by rw [this]; rfl)
        rw [h2] at hhd
        simp only [List.head?_cons, Option.some.injEq] at hhd
        rw [← hhd] at h45
        exact absurd h45 (by decide)
      · simp only [decT (show (d.length : Int) > 19 by omega), cond_true]
        have hbig : 10000000000000000000 ≤ valF 0 d := by
          rw [hx] at hcan h19 ⊢
          exact big_val hcan (by simp only [List.length_cons] at h19; omega)
        cases decide (c.toNat = 45)
        · rw [numV_ph (by omega)]; exact .of (pairR_eq _ _)
        · rw [numV_nh (by omega)]; exact .of (pairR_eq _ _)
    · rw [numB_bad (.inr (.inl (by rw [hun]; exact hd)))]; rfl
  by_cases h48 : x = 48
  · simp only [beqT (show (x.toNat : Int) = 48 by rw [h48]; rfl), cond_true]
    by_cases h45 : c.toNat = 45
    · have hne : s ≠ [48] := fun q => by
        rw [q] at hhd
        simp only [List.head?_cons, Option.some.injEq] at hhd
        rw [← hhd] at h45
        exact absurd h45 (by decide)
      simp only [beqT (show (c.toNat : Int) = 45 by omega), cond_true]
      rw [numB_bad (.inr (.inr ⟨by rw [hun, hx, h48]; rfl, hne⟩))]
      exact .of (pairR_eq _ _)
    · have hds := h45d h45
      simp only [beqF (show (c.toNat : Int) ≠ 45 by omega), cond_false]
      by_cases hlen : d.length > 1
      · simp only [decT (show (d.length : Int) > 1 by omega), cond_true]
        rw [numB_bad (.inr (.inr ⟨by rw [hun, hx, h48]; rfl, fun q => by rw [hds, q] at hlen; simp at hlen⟩))]
        exact .of (pairR_eq _ _)
      · simp only [decF (show ¬ (d.length : Int) > 1 by omega), cond_false]
        refine rest fun ⟨_, q⟩ => q ?_
        have e2 : xs = [] := by
          rw [hx] at hlen
          simp only [List.length_cons] at hlen
          exact List.eq_nil_of_length_eq_zero (by omega)
        rw [← hds, hx, h48, e2]
  · have h48' : x.toNat ≠ 48 := fun q => h48 (u8_ext q)
    simp only [beqF (show (x.toNat : Int) ≠ 48 by omega), cond_false]
    exact rest fun ⟨q, _⟩ => by rw [hx] at q; simp at q; exact h48 q
theorem r01_Number_ret (s : Bs) (hs : s.length ≤ 1000000000) : Ret lb F_r01_Number [.str s] (numR s) := by
  refine .top rfl (.eq (fun n => by rw [r01_Number_eq]) ?_)
  unfold numR
  match s, hs with
  | [], _ =>
    refine .all fun n => ?_
    rw [decF (by simp), cond_false, r01_Number_J6_eq, numB_bad (.inl rfl)]
    rfl
  | c :: r, hs =>
    rw [decT (show ((c :: r).length : Int) > 0 by simp only [List.length_cons]; omega)]
    simp only [cond_true]
    simp only [show atS (c :: r) 0 = some c from rfl]
    simp only [optO_s]
    by_cases h45 : c.toNat = 45
    · have hc : c = 45 := u8_ext h45
      subst hc
      simp only [beqT (show (((45 : UInt8).toNat : Int)) = 45 by decide), cond_true]
      refine .chk (decT ⟨by omega, by simp only [List.length_cons]; omega⟩) ?_
      rw [Int.toNat_natCast, List.take_length]
      exact rnum_main lb (45 :: r) r 45 rfl rfl (fun q => (q h45).elim) rfl (by simp only [List.length_cons] at hs; omega)
    · simp only [beqF (show (c.toNat : Int) ≠ 45 by omega), cond_false]
      have hc : c ≠ 45 := fun q => h45 (by rw [q]; rfl)
      exact rnum_main lb (c :: r) (c :: r) c (by simp [unsign, hc]) (by simp [signed, hc, h45]) (fun _ => rfl) rfl hs
theorem text_Decimal_ret (z : Int) (h0 : -9223372036854775808 ≤ z) (h1 : z ≤ 9223372036854775807) : Ret lb F_text_Decimal [.int .i64 z] (.str (Lib.itoa z)) := by
  refine .top rfl (.eq (fun n => by rw [text_Decimal_eq]) ?_)
  refine .call (v := .str (Lib.itoa z)) (.lib rfl ?_) .done
  simp only [lib_Itoa, if_pos (And.intro h0 h1), itoaF_eq h0 h1]
theorem dig_piece : ∀ d, d < 10 → (([48, 49, 50, 51, 52, 53, 54, 55, 56, 57] : Bs).take (d + 1)).drop d = [UInt8.ofNat (48 + d)] := by decide +kernel
theorem r01_digits_ret : ∀ (N u : Nat), u ≤ N → u < 18446744073709551616 → Ret lb F_r01_digits [.int .u64 (u : Int)] (.str (Lib.decDigits u)) := by
  intro N
  induction N with
  | zero =>
    intro u hu _
    have : u = 0 := by omega
    subst this
    refine .top rfl (.all fun n => ?_)
    rw [r01_digits_eq, Lib.decDigits, dif_pos (by decide)]
    rfl
  | succ N ih =>
    intro u hu h64
    refine .top rfl (.eq (fun n => by rw [r01_digits_eq]) ?_)
    by_cases h : u < 10
    · simp only [decT (show (u : Int) < 10 by omega), cond_true, wrapu64 (x := (u : Int) + 1) (by omega) (by omega)]
      refine .chk (decT ⟨by omega, by omega⟩) (.chk (decT ⟨by omega, by omega⟩) ?_)
      rw [Lib.decDigits, dif_pos h, show ((u : Int) + 1).toNat = u + 1 by omega, Int.toNat_natCast, dig_piece u h]
      exact .done
    · simp only [decF (show ¬ (u : Int) < 10 by omega), cond_false]
      have e1 : IntKind.wrap .u64 (Int.tdiv (u : Int) 10) = ((u / 10 : Nat) : Int) := by
        rw [show Int.tdiv (u : Int) 10 = ((u / 10 : Nat) : Int) from rfl, wrapu64 (by omega) (by omega)]
      have e2 : Int.tmod (u : Int) 10 = ((u % 10 : Nat) : Int) := rfl
      have e3 : IntKind.wrap .u64 (((u % 10 : Nat) : Int) + 1) = ((u % 10 + 1 : Nat) : Int) := by rw [wrapu64 (by omega) (by omega)]; omega
      simp only [e1, e2, e3]
      refine .call (ih (u / 10) (by omega) (by omega)) ?_
      refine .chk (decT ⟨by omega, by omega⟩) (.chk (decT ⟨by omega, by omega⟩) ?_)
      simp only [optO_s, asS_s, Int.toNat_natCast, dig_piece _ (show u % 10 < 10 by omega)]
      rw [Lib.decDigits.eq_def u, dif_neg h]
      refine .chk (decT ?_) .done
      have := itoa_len (z := ((u / 10 : Nat) : Int)) (by omega) (by omega)
      unfold Lib.itoa at this
      rw [if_neg (by omega), Int.toNat_natCast] at this
      simp only [List.length_cons, List.length_nil]
      omega
theorem r01_Decimal_ret (z : Int) (h0 : -9223372036854775808 ≤ z) (h1 : z ≤ 9223372036854775807) : Ret lb F_r01_Decimal [.int .i64 z] (.str (Lib.itoa z)) := by
  refine .top rfl (.eq (fun n => by rw [r01_Decimal_eq]) ?_)
  unfold Lib.itoa
  by_cases h : z < 0
  · simp only [decT h, cond_true, if_pos h, wrap64 (x := z + 1) (by omega) (by omega), wrap64 (x := 0 - (z + 1)) (by omega) (by omega), wrapu64 (x := 0 - (z + 1)) (by omega) (by omega), wrapu64 (x := 0 - (z + 1) + 1) (by omega) (by omega)]
    rw [show 0 - (z + 1) + 1 = (z.natAbs : Int) by omega]
    refine .call (r01_digits_ret lb z.natAbs z.natAbs (Nat.le_refl _) (by omega)) ?_
    simp only [optO_s, asS_s]
    refine .chk (decT ?_) .done
    have := itoa_len h0 h1
    unfold Lib.itoa at this
    rw [if_pos h] at this
    simp only [List.length_cons, List.length_nil] at this ⊢
    omega
  · simp only [decF h, cond_false, if_neg h, wrapu64 (x := z) (by omega) (by omega)]
    have := r01_digits_ret lb z.toNat z.toNat (Nat.le_refl _) (by omega)
    rw [show ((z.toNat : Nat) : Int) = z by omega] at this
    exact .call this .done
end Go.Proofs
