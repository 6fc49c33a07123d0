/- What the functions of package text and of its reference answer: codes. Conditions: as each says. -/
import Derived.Test.YtdcpdknginpohaaGreatDoorG1
import Derived.Test.YtdcpdknginpohaaGreatDoorRk
set_option linter.unusedSimpArgs false
namespace Go.Proofs
open Go.Am
variable (lb : Nat)
def isUp (c : UInt8) : Bool := decide (65 ≤ c.toNat) && decide (c.toNat ≤ 90)
theorem two_dec {a : Int} {x y : Int} {p : Bool} (hp : p = (decide (x ≤ a) && decide (a ≤ y))) : (bif decide (a ≥ x) then some (CV.bool (decide (a ≤ y))) else some (CV.bool false)) = some (CV.bool p) := by
  subst hp
  by_cases h : x ≤ a
  · simp [h]
  · simp [h]
theorem text_capital_ret (c : UInt8) : Ret lb F_text_capital [.int .u8 (c.toNat : Int)] (.bool (isUp c)) :=
  .top rfl (.all fun n => by rw [text_capital_eq, two_dec (p := isUp c) (by revert c; exact u8_all (by decide +kernel))])
theorem r01_upper_ret (c : UInt8) : Ret lb F_r01_upper [.int .u8 (c.toNat : Int)] (.bool (isUp c)) :=
  .top rfl (.all fun n => by rw [r01_upper_eq, two_dec (p := isUp c) (by revert c; exact u8_all (by decide +kernel))])
theorem text_digit_ret (c : UInt8) : Ret lb F_text_digit [.int .u8 (c.toNat : Int)] (.bool (isDg c)) :=
  .top rfl (.all fun n => by rw [text_digit_eq, two_dec (p := isDg c) (by revert c; exact u8_all (by decide +kernel))])
theorem r01_digit_ret (c : UInt8) : Ret lb F_r01_digit [.int .u8 (c.toNat : Int)] (.bool (isDg c)) :=
  .top rfl (.all fun n => by rw [r01_digit_eq, two_dec (p := isDg c) (by revert c; exact u8_all (by decide +kernel))])
theorem text_Code_1_ret (c : UInt8) : Ret lb F_text_Code_1 [.int .u8 (c.toNat : Int)] (.bool (isUp c || isDg c)) := by
  refine .top rfl (.eq (fun n => by rw [text_Code_1_eq]) ?_)
  refine .call (text_capital_ret lb c) ?_
  simp only [optO_s, asB_b]
  cases isUp c
  · simp only [cond_false, Bool.false_or]
    refine .call (text_digit_ret lb c) .done
  · exact .done
theorem text_plain_1_ret (c : UInt8) : Ret lb F_text_plain_1 [.int .u8 (c.toNat : Int)] (.bool (isPl c)) := by
  refine .top rfl (.all fun n => ?_)
  rw [text_plain_1_eq]
  revert c
  refine u8_all ?_
  have : ∀ k, k < 256 → (bif decide (((UInt8.ofNat k).toNat : Int) > 32) then bif decide (((UInt8.ofNat k).toNat : Int) ≤ 126) then ((((UInt8.ofNat k).toNat : Int) != 34)) else false else false) = isPl (UInt8.ofNat k) := by decide +kernel
  intro k hk
  rw [← this k hk]
  cases decide (((UInt8.ofNat k).toNat : Int) > 32)
  · rfl
  · cases decide (((UInt8.ofNat k).toNat : Int) ≤ 126) <;> rfl
theorem every_text_digit_ret (s : Bs) (hs : s.length ≤ 281474976710656) : Ret lb F_text_every [.str s, .fn F_text_digit] (.bool (s.all fun c => isDg c)) := by
  refine .top rfl (.eq (fun n => by rw [text_every_text_digit_eq]) ?_)
  refine Evt.diag (m := s.length) (loopS hs (P := fun p t n k => text_every_text_digit_L1 lb n k s (p.length : Int) = some (.bool (t.all fun c => isDg c))) ?_ ?_ s [] rfl)
  · refine .all fun n k => ?_
    rw [text_every_text_digit_L1_succ, decF (by omega), cond_false, text_every_text_digit_J2_eq]
    rfl
  · intro p c t hp hlt hat hw hev
    refine hev.imp2 (text_digit_ret lb c) fun n hn hc k hk => ?_
    rw [text_every_text_digit_L1_succ]
    simp only [hlt, decide_true, cond_true, hat, optO_s, hc, asB_b, hw, List.all_cons]
    cases (isDg c)
    · rfl
    · simpa using hn k hk
theorem every_text_capital_ret (s : Bs) (hs : s.length ≤ 281474976710656) : Ret lb F_text_every [.str s, .fn F_text_capital] (.bool (s.all fun c => isUp c)) := by
  refine .top rfl (.eq (fun n => by rw [text_every_text_capital_eq]) ?_)
  refine Evt.diag (m := s.length) (loopS hs (P := fun p t n k => text_every_text_capital_L1 lb n k s (p.length : Int) = some (.bool (t.all fun c => isUp c))) ?_ ?_ s [] rfl)
  · refine .all fun n k => ?_
    rw [text_every_text_capital_L1_succ, decF (by omega), cond_false, text_every_text_capital_J2_eq]
    rfl
  · intro p c t hp hlt hat hw hev
    refine hev.imp2 (text_capital_ret lb c) fun n hn hc k hk => ?_
    rw [text_every_text_capital_L1_succ]
    simp only [hlt, decide_true, cond_true, hat, optO_s, hc, asB_b, hw, List.all_cons]
    cases (isUp c)
    · rfl
    · simpa using hn k hk
theorem every_text_Code_1_ret (s : Bs) (hs : s.length ≤ 281474976710656) : Ret lb F_text_every [.str s, .fn F_text_Code_1] (.bool (s.all fun c => isUp c || isDg c)) := by
  refine .top rfl (.eq (fun n => by rw [text_every_text_Code_1_eq]) ?_)
  refine Evt.diag (m := s.length) (loopS hs (P := fun p t n k => text_every_text_Code_1_L1 lb n k s (p.length : Int) = some (.bool (t.all fun c => isUp c || isDg c))) ?_ ?_ s [] rfl)
  · refine .all fun n k => ?_
    rw [text_every_text_Code_1_L1_succ, decF (by omega), cond_false, text_every_text_Code_1_J2_eq]
    rfl
  · intro p c t hp hlt hat hw hev
    refine hev.imp2 (text_Code_1_ret lb c) fun n hn hc k hk => ?_
    rw [text_every_text_Code_1_L1_succ]
    simp only [hlt, decide_true, cond_true, hat, optO_s, hc, asB_b, hw, List.all_cons]
    cases (isUp c || isDg c)
    · rfl
    · simpa using hn k hk
theorem every_text_plain_1_ret (s : Bs) (hs : s.length ≤ 281474976710656) : Ret lb F_text_every [.str s, .fn F_text_plain_1] (.bool (s.all fun c => isPl c)) := by
  refine .top rfl (.eq (fun n => by rw [text_every_text_plain_1_eq]) ?_)
  refine Evt.diag (m := s.length) (loopS hs (P := fun p t n k => text_every_text_plain_1_L1 lb n k s (p.length : Int) = some (.bool (t.all fun c => isPl c))) ?_ ?_ s [] rfl)
  · refine .all fun n k => ?_
    rw [text_every_text_plain_1_L1_succ, decF (by omega), cond_false, text_every_text_plain_1_J2_eq]
    rfl
  · intro p c t hp hlt hat hw hev
    refine hev.imp2 (text_plain_1_ret lb c) fun n hn hc k hk => ?_
    rw [text_every_text_plain_1_L1_succ]
    simp only [hlt, decide_true, cond_true, hat, optO_s, hc, asB_b, hw, List.all_cons]
    cases (isPl c)
    · rfl
    · simpa using hn k hk
theorem text_plain_ret (s : Bs) (hs : s.length ≤ 281474976710656) : Ret lb F_text_plain [.str s] (.bool (plainB s)) := by
  refine .top rfl (.eq (fun n => by rw [text_plain_eq]) ?_)
  unfold plainB
  cases s with
  | nil => exact .done
  | cons c t =>
    simp only [show (c :: t == []) = false from rfl, Bool.not_false, cond_true, List.isEmpty_cons, Bool.true_and]
    exact .call (every_text_plain_1_ret lb (c :: t) hs) .done
theorem r01_plain_ret (s : Bs) (hs : s.length ≤ 281474976710656) : Ret lb F_r01_plain [.str s] (.bool (plainB s)) := by
  refine .top rfl (.eq (fun n => by rw [r01_plain_eq]) ?_)
  refine Evt.diag (m := s.length) (loopS hs (P := fun p t n k => r01_plain_L1 lb n k s (p.length : Int) = some (.bool (!s.isEmpty && t.all isPl))) ?_ ?_ s [] rfl)
  · refine .all fun n k => ?_
    rw [r01_plain_L1_succ, decF (by omega), cond_false, r01_plain_J2_eq]
    cases s <;> rfl
  · intro p c t hp hlt hat hw hev
    refine hev.mono fun n hn k hk => ?_
    have hn := hn k hk
    rw [← hw] at hn
    rw [r01_plain_L1_succ]
    simp only [hlt, decide_true, cond_true, hat, optO_s, List.all_cons]
    by_cases h1 : c.toNat < 33
    · rw [decT (by omega), cond_true, show isPl c = false by simp [isPl]; omega]; simp
    rw [decF (by omega), cond_false]
    by_cases h2 : 126 < c.toNat
    · rw [decT (by omega), cond_true, show isPl c = false by simp [isPl]; omega]; simp
    rw [decF (by omega), cond_false]
    by_cases h3 : c.toNat = 34
    · rw [beqT (by omega), cond_true, show isPl c = false by simp [isPl, h3]]; simp
    rw [beqF (by omega), cond_false, show isPl c = true by simp [isPl, h3]; omega, Bool.true_and]
    exact hn
theorem r01_letters_ret (s : Bs) (m : Int) (hs : s.length ≤ 281474976710656) : Ret lb F_r01_letters [.str s, .int .i64 m] (.bool (s.all isUp && ((s.length : Int) == m))) := by
  refine .top rfl (.eq (fun n => by rw [r01_letters_eq]) ?_)
  refine Evt.diag (m := s.length) (loopS hs (P := fun p t n k => r01_letters_L1 lb n k s m (p.length : Int) = some (.bool (t.all isUp && ((s.length : Int) == m)))) ?_ ?_ s [] rfl)
  · refine .all fun n k => ?_
    rw [r01_letters_L1_succ, decF (by omega), cond_false, r01_letters_J2_eq]
    rfl
  · intro p c t hp hlt hat hw hev
    refine hev.imp2 (r01_upper_ret lb c) fun n hn hc k hk => ?_
    rw [r01_letters_L1_succ]
    simp only [hlt, decide_true, cond_true, hat, optO_s, hc, asB_b, hw, List.all_cons]
    cases isUp c
    · rfl
    · simpa using hn k hk
def airportB (s : Bs) : Bool := decide (s.length = 3) && s.all isUp
theorem text_Airport_ret (s : Bs) (hs : s.length ≤ 281474976710656) : Ret lb F_text_Airport [.str s] (.bool (airportB s)) := by
  refine .top rfl (.eq (fun n => by rw [text_Airport_eq]) ?_)
  unfold airportB
  by_cases h : s.length = 3
  · simp only [beqT (show (s.length : Int) = 3 by omega), cond_true, h, decide_true, Bool.true_and]
    exact .call (every_text_capital_ret lb s hs) .done
  · simp only [beqF (show (s.length : Int) ≠ 3 by omega), cond_false, h, decide_false, Bool.false_and]
    exact .of trivial
theorem r01_Airport_ret (s : Bs) (hs : s.length ≤ 281474976710656) : Ret lb F_r01_Airport [.str s] (.bool (airportB s)) := by
  refine .top rfl (.eq (fun n => by rw [r01_Airport_eq]) ?_)
  refine .call (r01_letters_ret lb s 3 hs) ?_
  refine .of ?_
  unfold airportB
  rw [Bool.and_comm, show decide (s.length = 3) = ((s.length : Int) == 3) by
    by_cases h : s.length = 3
    · rw [beqT (by omega), decT h]
    · rw [beqF (by omega), decF h]]
def isCd (c : UInt8) : Bool := isUp c || isDg c
def codeB (s : Bs) (a b : Int) : Bool := decide ((s.length : Int) ≥ a) && (decide ((s.length : Int) ≤ b) && s.all isCd)
theorem text_Code_ret (s : Bs) (a b : Int) (hs : s.length ≤ 281474976710656) : Ret lb F_text_Code [.str s, .int .i64 a, .int .i64 b] (.bool (codeB s a b)) := by
  refine .top rfl (.eq (fun n => by rw [text_Code_eq]) ?_)
  unfold codeB
  cases decide ((s.length : Int) ≥ a)
  · exact .done
  cases decide ((s.length : Int) ≤ b)
  · exact .done
  exact .call (every_text_Code_1_ret lb s hs) .done
theorem r01_Code_ret (s : Bs) (a b : Int) (hs : s.length ≤ 281474976710656) : Ret lb F_r01_Code [.str s, .int .i64 a, .int .i64 b] (.bool (codeB s a b)) := by
  refine .top rfl (.eq (fun n => by rw [r01_Code_eq]) ?_)
  unfold codeB
  refine Evt.diag (m := s.length) (loopS hs (P := fun p t n k => r01_Code_L1 lb n k s a b (p.length : Int) = some (.bool (decide ((s.length : Int) ≥ a) && (decide ((s.length : Int) ≤ b) && t.all isCd)))) ?_ ?_ s [] rfl)
  · refine .all fun n k => ?_
    rw [r01_Code_L1_succ, decF (by omega), cond_false, r01_Code_J2_eq]
    cases decide ((s.length : Int) ≥ a) <;> simp
  · intro p c t hp hlt hat hw hev
    refine (hev.and (r01_digit_ret lb c)).imp2 (r01_upper_ret lb c) fun n ⟨hn, hd⟩ hc k hk => ?_
    have hn := hn k hk
    rw [r01_Code_L1_succ]
    simp only [hlt, decide_true, cond_true, hat, optO_s, hc, hd, asB_b, hw, List.all_cons, isCd] at hn ⊢
    cases isUp c
    · cases isDg c
      · simp
      · simpa using hn
    · simpa using hn
def carrierB (s : Bs) : Bool := codeB s 2 2 && !s.all isDg
theorem text_Carrier_ret (s : Bs) (hs : s.length ≤ 281474976710656) : Ret lb F_text_Carrier [.str s] (.bool (carrierB s)) := by
  refine .top rfl (.eq (fun n => by rw [text_Carrier_eq]) ?_)
  refine .call (text_Code_ret lb s 2 2 hs) ?_
  simp only [optO_s, asB_b]
  unfold carrierB
  cases codeB s 2 2
  · exact .done
  · simp only [cond_true, Bool.true_and]
    exact .call (every_text_digit_ret lb s hs) .done
theorem up_dg (c : UInt8) (h : isCd c = true) : isDg c = !isUp c := by
  revert h; revert c; refine u8_all ?_; decide +kernel
theorem r01_Carrier_ret (s : Bs) (hs : s.length ≤ 281474976710656) : Ret lb F_r01_Carrier [.str s] (.bool (carrierB s)) := by
  refine .top rfl (.eq (fun n => by rw [r01_Carrier_eq]) ?_)
  refine .call (r01_Code_ret lb s 2 2 hs) ?_
  simp only [optO_s, asB_b]
  unfold carrierB
  cases h : codeB s 2 2
  · exact .done
  · simp only [cond_true, Bool.true_and]
    unfold codeB at h
    simp only [Bool.and_eq_true, decide_eq_true_eq] at h
    obtain ⟨h1, h2, h3⟩ := h
    match s, h1, h2, h3 with
    | [x, y], _, _, h3 =>
      simp only [List.all_cons, List.all_nil, Bool.and_true, Bool.and_eq_true] at h3
      simp only [show atS [x, y] 0 = some x from rfl, show atS [x, y] 1 = some y from rfl, optO_s, List.all_cons, List.all_nil, Bool.and_true, up_dg x h3.1, up_dg y h3.2]
      refine .call (r01_upper_ret lb x) ?_
      simp only [optO_s, asB_b]
      cases isUp x
      · simp only [cond_false]
        refine .call (r01_upper_ret lb y) ?_
        exact .of (by simp)
      · exact .done
    | [], h1, h2, _ => simp at h1
    | [x], h1, h2, _ => simp at h1
    | x :: y :: z :: r, h1, h2, _ => simp at h2; omega
end Go.Proofs
