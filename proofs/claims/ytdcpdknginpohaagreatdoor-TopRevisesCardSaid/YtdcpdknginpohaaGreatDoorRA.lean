/- What the functions of package text and of its reference answer: quoted texts. Conditions: as each says. -/
import Derived.Test.YtdcpdknginpohaaGreatDoorG1
import Derived.Test.YtdcpdknginpohaaGreatDoorRk
import Derived.Laws.RangeAny
import Derived.Laws.RangeString
set_option linter.unusedSimpArgs false
namespace Go.Proofs
open Go.Am
variable (lb : Nat)
end Go.Proofs
set_option linter.unusedSimpArgs false
namespace Go.Proofs
open Go.Am
variable (lb : Nat)
def isUp (c : UInt8) : Bool := decide (65 ≤ c.toNat) && decide (c.toNat ≤ 90)
theorem QnL {a : Int} {x y : Int} {p : Bool} (hp : p = (decide (x ≤ a) && decide (a ≤ y))) : (bif decide (a ≥ x) then some (CV.bool (decide (a ≤ y))) else some (CV.bool false)) = some (CV.bool p) := by
 subst hp
 by_cases h : x ≤ a
 ·simp [h]
 ·simp [h]
theorem Qo3 (c : UInt8) : Ret lb QhH [.int .u8 (c.toNat : Int)] (.bool (isUp c)) :=
 .top rfl (.all fun n => by rw [Qqd, QnL (p := isUp c) (by revert c; exact Qnw (by decide +kernel))])
theorem Qgp (c : UInt8) : Ret lb Qe5 [.int .u8 (c.toNat : Int)] (.bool (isUp c)) :=
 .top rfl (.all fun n => by rw [Qt0, QnL (p := isUp c) (by revert c; exact Qnw (by decide +kernel))])
theorem QkF (c : UInt8) : Ret lb QcT [.int .u8 (c.toNat : Int)] (.bool (isDg c)) :=
 .top rfl (.all fun n => by rw [QsM, QnL (p := isDg c) (by revert c; exact Qnw (by decide +kernel))])
theorem QsA (c : UInt8) : Ret lb Qko [.int .u8 (c.toNat : Int)] (.bool (isDg c)) :=
 .top rfl (.all fun n => by rw [Qux, QnL (p := isDg c) (by revert c; exact Qnw (by decide +kernel))])
theorem Qqz (c : UInt8) : Ret lb Qc4 [.int .u8 (c.toNat : Int)] (.bool (isUp c || isDg c)) := by
 refine .top rfl (.eq (fun n => by rw [Qru]) ?_)
 refine .call (Qo3 lb c) ?_
 simp only [QaD, QaL]
 cases isUp c
 ·simp only [cond_false, Bool.false_or]
  refine .call (QkF lb c) .done
 ·exact .done
theorem QlQ (s : Bs) (hs : s.length ≤ 281474976710656) : Ret lb QaX [.str s, .fn QcT] (.bool (s.all fun c => isDg c)) := by
 refine .top rfl (.eq (fun n => by rw [Qjl]) ?_)
 refine Evt.diag (m := s.length) (QpK hs (P := fun p t n k => QcL lb n k s (p.length : Int) = some (.bool (t.all fun c => isDg c))) ?_ ?_ s [] rfl)
 ·refine .all fun n k => ?_
  rw [Qeb, decF (by omega), cond_false, Qid]
  rfl
 ·intro p c t hp hlt hat hw hev
  refine hev.imp2 (QkF lb c) fun n hn hc k hk => ?_
  rw [Qeb]
  simp only [hlt, decide_true, cond_true, hat, QaD, hc, QaL, hw, List.all_cons]
  cases (isDg c)
  ·rfl
  ·simpa using hn k hk
theorem Qk5 (s : Bs) (hs : s.length ≤ 281474976710656) : Ret lb QaX [.str s, .fn Qc4] (.bool (s.all fun c => isUp c || isDg c)) := by
 refine .top rfl (.eq (fun n => by rw [QiX]) ?_)
 refine Evt.diag (m := s.length) (QpK hs (P := fun p t n k => QcF lb n k s (p.length : Int) = some (.bool (t.all fun c => isUp c || isDg c))) ?_ ?_ s [] rfl)
 ·refine .all fun n k => ?_
  rw [Qd8, decF (by omega), cond_false, QhL]
  rfl
 ·intro p c t hp hlt hat hw hev
  refine hev.imp2 (Qqz lb c) fun n hn hc k hk => ?_
  rw [Qd8]
  simp only [hlt, decide_true, cond_true, hat, QaD, hc, QaL, hw, List.all_cons]
  cases (isUp c || isDg c)
  ·rfl
  ·simpa using hn k hk
theorem QjJ (s : Bs) (m : Int) (hs : s.length ≤ 281474976710656) : Ret lb Qbz [.str s, .int .i64 m] (.bool (s.all isUp && ((s.length : Int) == m))) := by
 refine .top rfl (.eq (fun n => by rw [Qq4]) ?_)
 refine Evt.diag (m := s.length) (QpK hs (P := fun p t n k => QfT lb n k s m (p.length : Int) = some (.bool (t.all isUp && ((s.length : Int) == m)))) ?_ ?_ s [] rfl)
 ·refine .all fun n k => ?_
  rw [Qhq, decF (by omega), cond_false, QnX]
  rfl
 ·intro p c t hp hlt hat hw hev
  refine hev.imp2 (Qgp lb c) fun n hn hc k hk => ?_
  rw [Qhq]
  simp only [hlt, decide_true, cond_true, hat, QaD, hc, QaL, hw, List.all_cons]
  cases isUp c
  ·rfl
  ·simpa using hn k hk
def QfD (s : Bs) : Bool := decide (s.length = 3) && s.all isUp
def Qi5 (s : Bs) : Bool := decide (s.length = 2) && s.all isUp
theorem QjG (s : Bs) (hs : s.length ≤ 281474976710656) : Ret lb Qgq [.str s] (.bool (QfD s)) := by
 refine .top rfl (.eq (fun n => by rw [Qq6]) ?_)
 refine .call (QjJ lb s 3 hs) ?_
 refine .of ?_
 unfold QfD
 rw [Bool.and_comm, show decide (s.length = 3) = ((s.length : Int) == 3) by
  by_cases h : s.length = 3
  ·rw [beqT (by omega), decT h]
  ·rw [beqF (by omega), decF h]]
theorem Qqn (s : Bs) (hs : s.length ≤ 281474976710656) : Ret lb Qis [.str s] (.bool (Qi5 s)) := by
 refine .top rfl (.eq (fun n => by rw [QqZ]) ?_)
 refine .call (QjJ lb s 2 hs) ?_
 refine .of ?_
 unfold Qi5
 rw [Bool.and_comm, show decide (s.length = 2) = ((s.length : Int) == 2) by
  by_cases h : s.length = 2
  ·rw [beqT (by omega), decT h]
  ·rw [beqF (by omega), decF h]]
def isCd (c : UInt8) : Bool := isUp c || isDg c
def Qek (s : Bs) (a b : Int) : Bool := decide ((s.length : Int) ≥ a) && (decide ((s.length : Int) ≤ b) && s.all isCd)
theorem Ql5 (s : Bs) (a b : Int) (hs : s.length ≤ 281474976710656) : Ret lb QhW [.str s, .int .i64 a, .int .i64 b] (.bool (Qek s a b)) := by
 refine .top rfl (.eq (fun n => by rw [Qtn]) ?_)
 unfold Qek
 cases decide ((s.length : Int) ≥ a)
 ·exact .done
 cases decide ((s.length : Int) ≤ b)
 ·exact .done
 exact .call (Qk5 lb s hs) .done
theorem QmD (s : Bs) (a b : Int) (hs : s.length ≤ 281474976710656) : Ret lb Qci [.str s, .int .i64 a, .int .i64 b] (.bool (Qek s a b)) := by
 refine .top rfl (.eq (fun n => by rw [QuW]) ?_)
 unfold Qek
 refine Evt.diag (m := s.length) (QpK hs (P := fun p t n k => r01_Code_L1 lb n k s a b (p.length : Int) = some (.bool (decide ((s.length : Int) ≥ a) && (decide ((s.length : Int) ≤ b) && t.all isCd)))) ?_ ?_ s [] rfl)
 ·refine .all fun n k => ?_
  rw [Qjm, decF (by omega), cond_false, Qrh]
  cases decide ((s.length : Int) ≥ a) <;> simp
 ·intro p c t hp hlt hat hw hev
  refine (hev.and (QsA lb c)).imp2 (Qgp lb c) fun n ⟨hn, hd⟩ hc k hk => ?_
  have hn := hn k hk
  rw [Qjm]
  simp only [hlt, decide_true, cond_true, hat, QaD, hc, hd, QaL, hw, List.all_cons, isCd] at hn ⊢
  cases isUp c
  ·cases isDg c
   ·simp
   ·simpa using hn
  ·simpa using hn
def Qdt (s : Bs) : Bool := Qek s 2 2 && !s.all isDg
theorem Qpa (s : Bs) (hs : s.length ≤ 281474976710656) : Ret lb QhE [.str s] (.bool (Qdt s)) := by
 refine .top rfl (.eq (fun n => by rw [Qql]) ?_)
 refine .call (Ql5 lb s 2 2 hs) ?_
 simp only [QaD, QaL]
 unfold Qdt
 cases Qek s 2 2
 ·exact .done
 ·simp only [cond_true, Bool.true_and]
  exact .call (QlQ lb s hs) .done
theorem Qys (c : UInt8) (h : isCd c = true) : isDg c = !isUp c := by
 revert h; revert c; refine Qnw ?_; decide +kernel
theorem QpR (s : Bs) (hs : s.length ≤ 281474976710656) : Ret lb Qir [.str s] (.bool (Qdt s)) := by
 refine .top rfl (.eq (fun n => by rw [QqM]) ?_)
 refine .call (QmD lb s 2 2 hs) ?_
 simp only [QaD, QaL]
 unfold Qdt
 cases h : Qek s 2 2
 ·exact .done
 ·simp only [cond_true, Bool.true_and]
  unfold Qek at h
  simp only [Bool.and_eq_true, decide_eq_true_eq] at h
  obtain ⟨h1, h2, h3⟩ := h
  match s, h1, h2, h3 with
  | [x, y], _, _, h3 =>
   simp only [List.all_cons, List.all_nil, Bool.and_true, Bool.and_eq_true] at h3
   simp only [show atS [x, y] 0 = some x from rfl, show atS [x, y] 1 = some y from rfl, QaD, List.all_cons, List.all_nil, Bool.and_true, Qys x h3.1, Qys y h3.2]
   refine .call (Qgp lb x) ?_
   simp only [QaD, QaL]
   cases isUp x
   ·simp only [cond_false]
    refine .call (Qgp lb y) ?_
    exact .of (by simp)
   ·exact .done
  | [], h1, h2, _ => simp at h1
  | [x], h1, h2, _ => simp at h1
  | x :: y :: z :: r, h1, h2, _ => simp at h2; omega
end Go.Proofs
set_option linter.unusedSimpArgs false
namespace Go.Proofs
open Go.Am
variable (lb : Nat)
end Go.Proofs
set_option linter.unusedSimpArgs false
namespace Go.Proofs
open Go.Am
variable (lb : Nat)
end Go.Proofs
set_option linter.unusedSimpArgs false
namespace Go.Proofs
open Go.Am
variable (lb : Nat)
theorem Qi4 {x : Int} (h0 : 0 ≤ x) (h1 : x < 18446744073709551616) : IntKind.wrap .u64 x = x := by
 unfold IntKind.wrap
 simp only [IntKind.bits, IntKind.signed]
 simp
 omega
theorem Qpb (z : Int) (h0 : -9223372036854775808 ≤ z) (h1 : z ≤ 9223372036854775807) : Ret lb QhI [.int .i64 z] (.str (Lib.itoa z)) := by
 refine .top rfl (.eq (fun n => by rw [Qpz]) ?_)
 refine .call (v := .str (Lib.itoa z)) (.lib rfl ?_) .done
 simp only [Qhz, if_pos (And.intro h0 h1), QoU h0 h1]
theorem Qsa : ∀ d, d < 10 → (([48, 49, 50, 51, 52, 53, 54, 55, 56, 57] : Bs).take (d + 1)).drop d = [UInt8.ofNat (48 + d)] := by decide +kernel
theorem Qk1 : ∀ (N u : Nat), u ≤ N → u < 18446744073709551616 → Ret lb QfG [.int .u64 (u : Int)] (.str (Lib.decDigits u)) := by
 intro N
 induction N with
 | zero =>
  intro u hu _
  have : u = 0 := by omega
  subst this
  refine .top rfl (.all fun n => ?_)
  rw [QlS, Lib.decDigits, dif_pos (by decide)]
  rfl
 | succ N ih =>
  intro u hu h64
  refine .top rfl (.eq (fun n => by rw [QlS]) ?_)
  by_cases h : u < 10
  ·simp only [decT (show (u : Int) < 10 by omega), cond_true, Qi4 (x := (u : Int) + 1) (by omega) (by omega)]
   refine .chk (decT ⟨by omega, by omega⟩) (.chk (decT ⟨by omega, by omega⟩) ?_)
   rw [Lib.decDigits, dif_pos h, show ((u : Int) + 1).toNat = u + 1 by omega, Int.toNat_natCast, Qsa u h]
   exact .done
  ·simp only [decF (show ¬ (u : Int) < 10 by omega), cond_false]
   have e1 : IntKind.wrap .u64 (Int.tdiv (u : Int) 10) = ((u / 10 : Nat) : Int) := by
    rw [show Int.tdiv (u : Int) 10 = ((u / 10 : Nat) : Int) from rfl, Qi4 (by omega) (by omega)]
   have e2 : Int.tmod (u : Int) 10 = ((u % 10 : Nat) : Int) := rfl
   have e3 : IntKind.wrap .u64 (((u % 10 : Nat) : Int) + 1) = ((u % 10 + 1 : Nat) : Int) := by rw [Qi4 (by omega) (by omega)]; omega
   simp only [e1, e2, e3]
   refine .call (ih (u / 10) (by omega) (by omega)) ?_
   refine .chk (decT ⟨by omega, by omega⟩) (.chk (decT ⟨by omega, by omega⟩) ?_)
   simp only [QaD, Qa1, Int.toNat_natCast, Qsa _ (show u % 10 < 10 by omega)]
   rw [Lib.decDigits.eq_def u, dif_neg h]
   refine .chk (decT ?_) .done
   have := Qea (z := ((u / 10 : Nat) : Int)) (by omega) (by omega)
   unfold Lib.itoa at this
   rw [if_neg (by omega), Int.toNat_natCast] at this
   simp only [List.length_cons, List.length_nil]
   omega
theorem Qfg (z : Int) (h0 : -9223372036854775808 ≤ z) (h1 : z ≤ 9223372036854775807) : Ret lb QdS [.int .i64 z] (.str (Lib.itoa z)) := by
 refine .top rfl (.eq (fun n => by rw [Qrq]) ?_)
 unfold Lib.itoa
 by_cases h : z < 0
 ·simp only [decT h, cond_true, if_pos h, QaF (x := z + 1) (by omega) (by omega), QaF (x := 0 - (z + 1)) (by omega) (by omega), Qi4 (x := 0 - (z + 1)) (by omega) (by omega), Qi4 (x := 0 - (z + 1) + 1) (by omega) (by omega)]
  rw [show 0 - (z + 1) + 1 = (z.natAbs : Int) by omega]
  refine .call (Qk1 lb z.natAbs z.natAbs (Nat.le_refl _) (by omega)) ?_
  simp only [QaD, Qa1]
  refine .chk (decT ?_) .done
  have := Qea h0 h1
  unfold Lib.itoa at this
  rw [if_pos h] at this
  simp only [List.length_cons, List.length_nil] at this ⊢
  omega
 ·simp only [decF h, cond_false, if_neg h, Qi4 (x := z) (by omega) (by omega)]
  have := Qk1 lb z.toNat z.toNat (Nat.le_refl _) (by omega)
  rw [show ((z.toNat : Nat) : Int) = z by omega] at this
  exact .call this .done
end Go.Proofs
set_option linter.unusedSimpArgs false
namespace Go.Proofs
open Go.Am
variable (lb : Nat)
end Go.Proofs
set_option linter.unusedSimpArgs false
namespace Go.Proofs
open Go.Am
variable (lb : Nat)
end Go.Proofs
