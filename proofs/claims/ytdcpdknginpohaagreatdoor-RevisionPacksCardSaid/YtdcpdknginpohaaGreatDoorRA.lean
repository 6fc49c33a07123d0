/- What the functions of package text and of its reference answer: quoted texts. Conditions: as each says. -/
import Derived.Test.YtdcpdknginpohaaGreatDoorG1
import Derived.Test.YtdcpdknginpohaaGreatDoorRk
import Derived.Laws.RangeAny
import Derived.Laws.RangeString
set_option linter.unusedSimpArgs false
namespace Go.Proofs
open Go.Am
variable (lb : Nat)
end Go.Proofs
set_option linter.unusedSimpArgs false
namespace Go.Proofs
open Go.Am
variable (lb : Nat)
def isUp (c : UInt8) : Bool := decide (65 ≤ c.toNat) && decide (c.toNat ≤ 90)
theorem QrR {a : Int} {x y : Int} {p : Bool} (hp : p = (decide (x ≤ a) && decide (a ≤ y))) : (bif decide (a ≥ x) then some (CV.bool (decide (a ≤ y))) else some (CV.bool false)) = some (CV.bool p) := by
 subst hp
 by_cases h : x ≤ a
 ·simp [h]
 ·simp [h]
theorem QeF (c : UInt8) : Ret lb QdC [.int .u8 (c.toNat : Int)] (.bool (isUp c)) :=
 .top rfl (.all fun n => by rw [QpS, QrR (p := isUp c) (by revert c; exact QqC (by decide +kernel))])
theorem QpA (c : UInt8) : Ret lb Qid [.int .u8 (c.toNat : Int)] (.bool (isDg c)) :=
 .top rfl (.all fun n => by rw [QqK, QrR (p := isDg c) (by revert c; exact QqC (by decide +kernel))])
theorem Qh3 (s : Bs) (m : Int) (hs : s.length ≤ 281474976710656) : Ret lb Qa2 [.str s, .int .i64 m] (.bool (s.all isUp && ((s.length : Int) == m))) := by
 refine .top rfl (.eq (fun n => by rw [QnY]) ?_)
 refine Evt.diag (m := s.length) (Qsu hs (P := fun p t n k => Qeh lb n k s m (p.length : Int) = some (.bool (t.all isUp && ((s.length : Int) == m)))) ?_ ?_ s [] rfl)
 ·refine .all fun n k => ?_
  rw [Qfu, decF (by omega), cond_false, Qlo]
  rfl
 ·intro p c t hp hlt hat hw hev
  refine hev.imp2 (QeF lb c) fun n hn hc k hk => ?_
  rw [Qfu]
  simp only [hlt, decide_true, cond_true, hat, QaM, hc, QaH, hw, List.all_cons]
  cases isUp c
  ·rfl
  ·simpa using hn k hk
def Qd2 (s : Bs) : Bool := decide (s.length = 3) && s.all isUp
def Qg5 (s : Bs) : Bool := decide (s.length = 2) && s.all isUp
theorem QhO (s : Bs) (hs : s.length ≤ 281474976710656) : Ret lb QeE [.str s] (.bool (Qd2 s)) := by
 refine .top rfl (.eq (fun n => by rw [Qn0]) ?_)
 refine .call (Qh3 lb s 3 hs) ?_
 refine .of ?_
 unfold Qd2
 rw [Bool.and_comm, show decide (s.length = 3) = ((s.length : Int) == 3) by
  by_cases h : s.length = 3
  ·rw [beqT (by omega), decT h]
  ·rw [beqF (by omega), decF h]]
theorem Qnr (s : Bs) (hs : s.length ≤ 281474976710656) : Ret lb Qgl [.str s] (.bool (Qg5 s)) := by
 refine .top rfl (.eq (fun n => by rw [Qoc]) ?_)
 refine .call (Qh3 lb s 2 hs) ?_
 refine .of ?_
 unfold Qg5
 rw [Bool.and_comm, show decide (s.length = 2) = ((s.length : Int) == 2) by
  by_cases h : s.length = 2
  ·rw [beqT (by omega), decT h]
  ·rw [beqF (by omega), decF h]]
def isCd (c : UInt8) : Bool := isUp c || isDg c
def Qfq (s : Bs) (a b : Int) : Bool := decide ((s.length : Int) ≥ a) && (decide ((s.length : Int) ≤ b) && s.all isCd)
theorem QkK (s : Bs) (a b : Int) (hs : s.length ≤ 281474976710656) : Ret lb QbG [.str s, .int .i64 a, .int .i64 b] (.bool (Qfq s a b)) := by
 refine .top rfl (.eq (fun n => by rw [QrF]) ?_)
 unfold Qfq
 refine Evt.diag (m := s.length) (Qsu hs (P := fun p t n k => r01_Code_L1 lb n k s a b (p.length : Int) = some (.bool (decide ((s.length : Int) ≥ a) && (decide ((s.length : Int) ≤ b) && t.all isCd)))) ?_ ?_ s [] rfl)
 ·refine .all fun n k => ?_
  rw [Qhx, decF (by omega), cond_false, Qn9]
  cases decide ((s.length : Int) ≥ a) <;> simp
 ·intro p c t hp hlt hat hw hev
  refine (hev.and (QpA lb c)).imp2 (QeF lb c) fun n ⟨hn, hd⟩ hc k hk => ?_
  have hn := hn k hk
  rw [Qhx]
  simp only [hlt, decide_true, cond_true, hat, QaM, hc, hd, QaH, hw, List.all_cons, isCd] at hn ⊢
  cases isUp c
  ·cases isDg c
   ·simp
   ·simpa using hn
  ·simpa using hn
def QeQ (s : Bs) : Bool := Qfq s 2 2 && !s.all isDg
theorem Qva (c : UInt8) (h : isCd c = true) : isDg c = !isUp c := by
 revert h; revert c; refine QqC ?_; decide +kernel
theorem QmI (s : Bs) (hs : s.length ≤ 281474976710656) : Ret lb Qgr [.str s] (.bool (QeQ s)) := by
 refine .top rfl (.eq (fun n => by rw [Qn2]) ?_)
 refine .call (QkK lb s 2 2 hs) ?_
 simp only [QaM, QaH]
 unfold QeQ
 cases h : Qfq s 2 2
 ·exact .done
 ·simp only [cond_true, Bool.true_and]
  unfold Qfq at h
  simp only [Bool.and_eq_true, decide_eq_true_eq] at h
  obtain ⟨h1, h2, h3⟩ := h
  match s, h1, h2, h3 with
  | [x, y], _, _, h3 =>
   simp only [List.all_cons, List.all_nil, Bool.and_true, Bool.and_eq_true] at h3
   simp only [show atS [x, y] 0 = some x from rfl, show atS [x, y] 1 = some y from rfl, QaM, List.all_cons, List.all_nil, Bool.and_true, Qva x h3.1, Qva y h3.2]
   refine .call (QeF lb x) ?_
   simp only [QaM, QaH]
   cases isUp x
   ·simp only [cond_false]
    refine .call (QeF lb y) ?_
    exact .of (by simp)
   ·exact .done
  | [], h1, h2, _ => simp at h1
  | [x], h1, h2, _ => simp at h1
  | x :: y :: z :: r, h1, h2, _ => simp at h2; omega
end Go.Proofs
set_option linter.unusedSimpArgs false
namespace Go.Proofs
open Go.Am
variable (lb : Nat)
end Go.Proofs
set_option linter.unusedSimpArgs false
namespace Go.Proofs
open Go.Am
variable (lb : Nat)
end Go.Proofs
set_option linter.unusedSimpArgs false
namespace Go.Proofs
open Go.Am
variable (lb : Nat)
theorem QgT {x : Int} (h0 : 0 ≤ x) (h1 : x < 18446744073709551616) : IntKind.wrap .u64 x = x := by
 unfold IntKind.wrap
 simp only [IntKind.bits, IntKind.signed]
 simp
 omega
theorem QoQ : ∀ d, d < 10 → (([48, 49, 50, 51, 52, 53, 54, 55, 56, 57] : Bs).take (d + 1)).drop d = [UInt8.ofNat (48 + d)] := by decide +kernel
theorem QiF : ∀ (N u : Nat), u ≤ N → u < 18446744073709551616 → Ret lb QdU [.int .u64 (u : Int)] (.str (Lib.decDigits u)) := by
 intro N
 induction N with
 | zero =>
  intro u hu _
  have : u = 0 := by omega
  subst this
  refine .top rfl (.all fun n => ?_)
  rw [QjR, Lib.decDigits, dif_pos (by decide)]
  rfl
 | succ N ih =>
  intro u hu h64
  refine .top rfl (.eq (fun n => by rw [QjR]) ?_)
  by_cases h : u < 10
  ·simp only [decT (show (u : Int) < 10 by omega), cond_true, QgT (x := (u : Int) + 1) (by omega) (by omega)]
   refine .chk (decT ⟨by omega, by omega⟩) (.chk (decT ⟨by omega, by omega⟩) ?_)
   rw [Lib.decDigits, dif_pos h, show ((u : Int) + 1).toNat = u + 1 by omega, Int.toNat_natCast, QoQ u h]
   exact .done
  ·simp only [decF (show ¬ (u : Int) < 10 by omega), cond_false]
   have e1 : IntKind.wrap .u64 (Int.tdiv (u : Int) 10) = ((u / 10 : Nat) : Int) := by
    rw [show Int.tdiv (u : Int) 10 = ((u / 10 : Nat) : Int) from rfl, QgT (by omega) (by omega)]
   have e2 : Int.tmod (u : Int) 10 = ((u % 10 : Nat) : Int) := rfl
   have e3 : IntKind.wrap .u64 (((u % 10 : Nat) : Int) + 1) = ((u % 10 + 1 : Nat) : Int) := by rw [QgT (by omega) (by omega)]; omega
   simp only [e1, e2, e3]
   refine .call (ih (u / 10) (by omega) (by omega)) ?_
   refine .chk (decT ⟨by omega, by omega⟩) (.chk (decT ⟨by omega, by omega⟩) ?_)
   simp only [QaM, Qa4, Int.toNat_natCast, QoQ _ (show u % 10 < 10 by omega)]
   rw [Lib.decDigits.eq_def u, dif_neg h]
   refine .chk (decT ?_) .done
   have := QdS (z := ((u / 10 : Nat) : Int)) (by omega) (by omega)
   unfold Lib.itoa at this
   rw [if_neg (by omega), Int.toNat_natCast] at this
   simp only [List.length_cons, List.length_nil]
   omega
theorem QdL (z : Int) (h0 : -9223372036854775808 ≤ z) (h1 : z ≤ 9223372036854775807) : Ret lb QcQ [.int .i64 z] (.str (Lib.itoa z)) := by
 refine .top rfl (.eq (fun n => by rw [Qn6]) ?_)
 unfold Lib.itoa
 by_cases h : z < 0
 ·simp only [decT h, cond_true, if_pos h, Qaz (x := z + 1) (by omega) (by omega), Qaz (x := 0 - (z + 1)) (by omega) (by omega), QgT (x := 0 - (z + 1)) (by omega) (by omega), QgT (x := 0 - (z + 1) + 1) (by omega) (by omega)]
  rw [show 0 - (z + 1) + 1 = (z.natAbs : Int) by omega]
  refine .call (QiF lb z.natAbs z.natAbs (Nat.le_refl _) (by omega)) ?_
  simp only [QaM, Qa4]
  refine .chk (decT ?_) .done
  have := QdS h0 h1
  unfold Lib.itoa at this
  rw [if_pos h] at this
  simp only [List.length_cons, List.length_nil] at this ⊢
  omega
 ·simp only [decF h, cond_false, if_neg h, QgT (x := z) (by omega) (by omega)]
  have := QiF lb z.toNat z.toNat (Nat.le_refl _) (by omega)
  rw [show ((z.toNat : Nat) : Int) = z by omega] at this
  exact .call this .done
end Go.Proofs
set_option linter.unusedSimpArgs false
namespace Go.Proofs
open Go.Am
variable (lb : Nat)
end Go.Proofs
set_option linter.unusedSimpArgs false
namespace Go.Proofs
open Go.Am
variable (lb : Nat)
end Go.Proofs
