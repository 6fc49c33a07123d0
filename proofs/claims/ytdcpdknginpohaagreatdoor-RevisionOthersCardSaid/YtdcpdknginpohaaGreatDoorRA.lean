/- What the functions of package text and of its reference answer: quoted texts. Conditions: as each says. -/
import Derived.Test.YtdcpdknginpohaaGreatDoorG1
import Derived.Test.YtdcpdknginpohaaGreatDoorRk
import Derived.Laws.RangeAny
import Derived.Laws.RangeString
set_option linter.unusedSimpArgs false
namespace Go.Proofs
open Go.Am
variable (lb : Nat)
end Go.Proofs
set_option linter.unusedSimpArgs false
namespace Go.Proofs
open Go.Am
variable (lb : Nat)
def isUp (c : UInt8) : Bool := decide (65 ≤ c.toNat) && decide (c.toNat ≤ 90)
theorem Qnx {a : Int} {x y : Int} {p : Bool} (hp : p = (decide (x ≤ a) && decide (a ≤ y))) : (bif decide (a ≥ x) then some (CV.bool (decide (a ≤ y))) else some (CV.bool false)) = some (CV.bool p) := by
 subst hp
 by_cases h : x ≤ a
 ·simp [h]
 ·simp [h]
theorem Qo0 (c : UInt8) : Ret lb Qhm [.int .u8 (c.toNat : Int)] (.bool (isUp c)) :=
 .top rfl (.all fun n => by rw [Qph, Qnx (p := isUp c) (by revert c; exact Qmb (by decide +kernel))])
theorem Qgc (c : UInt8) : Ret lb QeX [.int .u8 (c.toNat : Int)] (.bool (isUp c)) :=
 .top rfl (.all fun n => by rw [Qtu, Qnx (p := isUp c) (by revert c; exact Qmb (by decide +kernel))])
theorem Qky (c : UInt8) : Ret lb QcR [.int .u8 (c.toNat : Int)] (.bool (isDg c)) :=
 .top rfl (.all fun n => by rw [Qsk, Qnx (p := isDg c) (by revert c; exact Qmb (by decide +kernel))])
theorem Qsh (c : UInt8) : Ret lb Qj7 [.int .u8 (c.toNat : Int)] (.bool (isDg c)) :=
 .top rfl (.all fun n => by rw [Qt4, Qnx (p := isDg c) (by revert c; exact Qmb (by decide +kernel))])
theorem Qpc (c : UInt8) : Ret lb Qc3 [.int .u8 (c.toNat : Int)] (.bool (isUp c || isDg c)) := by
 refine .top rfl (.eq (fun n => by rw [Qrd]) ?_)
 refine .call (Qo0 lb c) ?_
 simp only [QaC, QaF]
 cases isUp c
 ·simp only [cond_false, Bool.false_or]
  refine .call (Qky lb c) .done
 ·exact .done
theorem QkY (s : Bs) (hs : s.length ≤ 281474976710656) : Ret lb QaT [.str s, .fn QcR] (.bool (s.all fun c => isDg c)) := by
 refine .top rfl (.eq (fun n => by rw [Qjf]) ?_)
 refine Evt.diag (m := s.length) (Qqj hs (P := fun p t n k => QcO lb n k s (p.length : Int) = some (.bool (t.all fun c => isDg c))) ?_ ?_ s [] rfl)
 ·refine .all fun n k => ?_
  rw [Qd8, decF (by omega), cond_false, QhX]
  rfl
 ·intro p c t hp hlt hat hw hev
  refine hev.imp2 (Qky lb c) fun n hn hc k hk => ?_
  rw [Qd8]
  simp only [hlt, decide_true, cond_true, hat, QaC, hc, QaF, hw, List.all_cons]
  cases (isDg c)
  ·rfl
  ·simpa using hn k hk
theorem Qkt (s : Bs) (hs : s.length ≤ 281474976710656) : Ret lb QaT [.str s, .fn Qc3] (.bool (s.all fun c => isUp c || isDg c)) := by
 refine .top rfl (.eq (fun n => by rw [Qis]) ?_)
 refine Evt.diag (m := s.length) (Qqj hs (P := fun p t n k => QcD lb n k s (p.length : Int) = some (.bool (t.all fun c => isUp c || isDg c))) ?_ ?_ s [] rfl)
 ·refine .all fun n k => ?_
  rw [Qd2, decF (by omega), cond_false, Qhq]
  rfl
 ·intro p c t hp hlt hat hw hev
  refine hev.imp2 (Qpc lb c) fun n hn hc k hk => ?_
  rw [Qd2]
  simp only [hlt, decide_true, cond_true, hat, QaC, hc, QaF, hw, List.all_cons]
  cases (isUp c || isDg c)
  ·rfl
  ·simpa using hn k hk
theorem Qjj (s : Bs) (m : Int) (hs : s.length ≤ 281474976710656) : Ret lb Qbw [.str s, .int .i64 m] (.bool (s.all isUp && ((s.length : Int) == m))) := by
 refine .top rfl (.eq (fun n => by rw [Qq8]) ?_)
 refine Evt.diag (m := s.length) (Qqj hs (P := fun p t n k => QfJ lb n k s m (p.length : Int) = some (.bool (t.all isUp && ((s.length : Int) == m)))) ?_ ?_ s [] rfl)
 ·refine .all fun n k => ?_
  rw [Qg8, decF (by omega), cond_false, QnW]
  rfl
 ·intro p c t hp hlt hat hw hev
  refine hev.imp2 (Qgc lb c) fun n hn hc k hk => ?_
  rw [Qg8]
  simp only [hlt, decide_true, cond_true, hat, QaC, hc, QaF, hw, List.all_cons]
  cases isUp c
  ·rfl
  ·simpa using hn k hk
def Qfp (s : Bs) : Bool := decide (s.length = 3) && s.all isUp
def QiX (s : Bs) : Bool := decide (s.length = 2) && s.all isUp
theorem Qju (s : Bs) (hs : s.length ≤ 281474976710656) : Ret lb Qf8 [.str s] (.bool (Qfp s)) := by
 refine .top rfl (.eq (fun n => by rw [Qqw]) ?_)
 refine .call (Qjj lb s 3 hs) ?_
 refine .of ?_
 unfold Qfp
 rw [Bool.and_comm, show decide (s.length = 3) = ((s.length : Int) == 3) by
  by_cases h : s.length = 3
  ·rw [beqT (by omega), decT h]
  ·rw [beqF (by omega), decF h]]
theorem QpJ (s : Bs) (hs : s.length ≤ 281474976710656) : Ret lb Qh9 [.str s] (.bool (QiX s)) := by
 refine .top rfl (.eq (fun n => by rw [Qqu]) ?_)
 refine .call (Qjj lb s 2 hs) ?_
 refine .of ?_
 unfold QiX
 rw [Bool.and_comm, show decide (s.length = 2) = ((s.length : Int) == 2) by
  by_cases h : s.length = 2
  ·rw [beqT (by omega), decT h]
  ·rw [beqF (by omega), decF h]]
def isCd (c : UInt8) : Bool := isUp c || isDg c
def Qee (s : Bs) (a b : Int) : Bool := decide ((s.length : Int) ≥ a) && (decide ((s.length : Int) ≤ b) && s.all isCd)
theorem QlQ (s : Bs) (a b : Int) (hs : s.length ≤ 281474976710656) : Ret lb QhJ [.str s, .int .i64 a, .int .i64 b] (.bool (Qee s a b)) := by
 refine .top rfl (.eq (fun n => by rw [Qtf]) ?_)
 unfold Qee
 cases decide ((s.length : Int) ≥ a)
 ·exact .done
 cases decide ((s.length : Int) ≤ b)
 ·exact .done
 exact .call (Qkt lb s hs) .done
theorem Qmr (s : Bs) (a b : Int) (hs : s.length ≤ 281474976710656) : Ret lb Qcc [.str s, .int .i64 a, .int .i64 b] (.bool (Qee s a b)) := by
 refine .top rfl (.eq (fun n => by rw [QuP]) ?_)
 unfold Qee
 refine Evt.diag (m := s.length) (Qqj hs (P := fun p t n k => r01_Code_L1 lb n k s a b (p.length : Int) = some (.bool (decide ((s.length : Int) ≥ a) && (decide ((s.length : Int) ≤ b) && t.all isCd)))) ?_ ?_ s [] rfl)
 ·refine .all fun n k => ?_
  rw [Qi5, decF (by omega), cond_false, Qqx]
  cases decide ((s.length : Int) ≥ a) <;> simp
 ·intro p c t hp hlt hat hw hev
  refine (hev.and (Qsh lb c)).imp2 (Qgc lb c) fun n ⟨hn, hd⟩ hc k hk => ?_
  have hn := hn k hk
  rw [Qi5]
  simp only [hlt, decide_true, cond_true, hat, QaC, hc, hd, QaF, hw, List.all_cons, isCd] at hn ⊢
  cases isUp c
  ·cases isDg c
   ·simp
   ·simpa using hn
  ·simpa using hn
def Qds (s : Bs) : Bool := Qee s 2 2 && !s.all isDg
theorem Qo2 (s : Bs) (hs : s.length ≤ 281474976710656) : Ret lb Qhw [.str s] (.bool (Qds s)) := by
 refine .top rfl (.eq (fun n => by rw [Qpj]) ?_)
 refine .call (QlQ lb s 2 2 hs) ?_
 simp only [QaC, QaF]
 unfold Qds
 cases Qee s 2 2
 ·exact .done
 ·simp only [cond_true, Bool.true_and]
  exact .call (QkY lb s hs) .done
theorem Qyo (c : UInt8) (h : isCd c = true) : isDg c = !isUp c := by
 revert h; revert c; refine Qmb ?_; decide +kernel
theorem Qpb (s : Bs) (hs : s.length ≤ 281474976710656) : Ret lb Qh8 [.str s] (.bool (Qds s)) := by
 refine .top rfl (.eq (fun n => by rw [QqK]) ?_)
 refine .call (Qmr lb s 2 2 hs) ?_
 simp only [QaC, QaF]
 unfold Qds
 cases h : Qee s 2 2
 ·exact .done
 ·simp only [cond_true, Bool.true_and]
  unfold Qee at h
  simp only [Bool.and_eq_true, decide_eq_true_eq] at h
  obtain ⟨h1, h2, h3⟩ := h
  match s, h1, h2, h3 with
  | [x, y], _, _, h3 =>
   simp only [List.all_cons, List.all_nil, Bool.and_true, Bool.and_eq_true] at h3
   simp only [show atS [x, y] 0 = some x from rfl, show atS [x, y] 1 = some y from rfl, QaC, List.all_cons, List.all_nil, Bool.and_true, Qyo x h3.1, Qyo y h3.2]
   refine .call (Qgc lb x) ?_
   simp only [QaC, QaF]
   cases isUp x
   ·simp only [cond_false]
    refine .call (Qgc lb y) ?_
    exact .of (by simp)
   ·exact .done
  | [], h1, h2, _ => simp at h1
  | [x], h1, h2, _ => simp at h1
  | x :: y :: z :: r, h1, h2, _ => simp at h2; omega
end Go.Proofs
set_option linter.unusedSimpArgs false
namespace Go.Proofs
open Go.Am
variable (lb : Nat)
end Go.Proofs
set_option linter.unusedSimpArgs false
namespace Go.Proofs
open Go.Am
variable (lb : Nat)
end Go.Proofs
set_option linter.unusedSimpArgs false
namespace Go.Proofs
open Go.Am
variable (lb : Nat)
theorem QiF {x : Int} (h0 : 0 ≤ x) (h1 : x < 18446744073709551616) : IntKind.wrap .u64 x = x := by
 unfold IntKind.wrap
 simp only [IntKind.bits, IntKind.signed]
 simp
 omega
theorem QoH (z : Int) (h0 : -9223372036854775808 ≤ z) (h1 : z ≤ 9223372036854775807) : Ret lb Qhb [.int .i64 z] (.str (Lib.itoa z)) := by
 refine .top rfl (.eq (fun n => by rw [Qp9]) ?_)
 refine .call (v := .str (Lib.itoa z)) (.lib rfl ?_) .done
 simp only [Qld, if_pos (And.intro h0 h1), Qts h0 h1]
theorem Qrk : ∀ d, d < 10 → (([48, 49, 50, 51, 52, 53, 54, 55, 56, 57] : Bs).take (d + 1)).drop d = [UInt8.ofNat (48 + d)] := by decide +kernel
theorem QkB : ∀ (N u : Nat), u ≤ N → u < 18446744073709551616 → Ret lb Qfl [.int .u64 (u : Int)] (.str (Lib.decDigits u)) := by
 intro N
 induction N with
 | zero =>
  intro u hu _
  have : u = 0 := by omega
  subst this
  refine .top rfl (.all fun n => ?_)
  rw [QlM, Lib.decDigits, dif_pos (by decide)]
  rfl
 | succ N ih =>
  intro u hu h64
  refine .top rfl (.eq (fun n => by rw [QlM]) ?_)
  by_cases h : u < 10
  ·simp only [decT (show (u : Int) < 10 by omega), cond_true, QiF (x := (u : Int) + 1) (by omega) (by omega)]
   refine .chk (decT ⟨by omega, by omega⟩) (.chk (decT ⟨by omega, by omega⟩) ?_)
   rw [Lib.decDigits, dif_pos h, show ((u : Int) + 1).toNat = u + 1 by omega, Int.toNat_natCast, Qrk u h]
   exact .done
  ·simp only [decF (show ¬ (u : Int) < 10 by omega), cond_false]
   have e1 : IntKind.wrap .u64 (Int.tdiv (u : Int) 10) = ((u / 10 : Nat) : Int) := by
    rw [show Int.tdiv (u : Int) 10 = ((u / 10 : Nat) : Int) from rfl, QiF (by omega) (by omega)]
   have e2 : Int.tmod (u : Int) 10 = ((u % 10 : Nat) : Int) := rfl
   have e3 : IntKind.wrap .u64 (((u % 10 : Nat) : Int) + 1) = ((u % 10 + 1 : Nat) : Int) := by rw [QiF (by omega) (by omega)]; omega
   simp only [e1, e2, e3]
   refine .call (ih (u / 10) (by omega) (by omega)) ?_
   refine .chk (decT ⟨by omega, by omega⟩) (.chk (decT ⟨by omega, by omega⟩) ?_)
   simp only [QaC, Qa0, Int.toNat_natCast, Qrk _ (show u % 10 < 10 by omega)]
   rw [Lib.decDigits.eq_def u, dif_neg h]
   refine .chk (decT ?_) .done
   have := QeB (z := ((u / 10 : Nat) : Int)) (by omega) (by omega)
   unfold Lib.itoa at this
   rw [if_neg (by omega), Int.toNat_natCast] at this
   simp only [List.length_cons, List.length_nil]
   omega
theorem Qfe (z : Int) (h0 : -9223372036854775808 ≤ z) (h1 : z ≤ 9223372036854775807) : Ret lb QdU [.int .i64 z] (.str (Lib.itoa z)) := by
 refine .top rfl (.eq (fun n => by rw [Qq1]) ?_)
 unfold Lib.itoa
 by_cases h : z < 0
 ·simp only [decT h, cond_true, if_pos h, QaB (x := z + 1) (by omega) (by omega), QaB (x := 0 - (z + 1)) (by omega) (by omega), QiF (x := 0 - (z + 1)) (by omega) (by omega), QiF (x := 0 - (z + 1) + 1) (by omega) (by omega)]
  rw [show 0 - (z + 1) + 1 = (z.natAbs : Int) by omega]
  refine .call (QkB lb z.natAbs z.natAbs (Nat.le_refl _) (by omega)) ?_
  simp only [QaC, Qa0]
  refine .chk (decT ?_) .done
  have := QeB h0 h1
  unfold Lib.itoa at this
  rw [if_pos h] at this
  simp only [List.length_cons, List.length_nil] at this ⊢
  omega
 ·simp only [decF h, cond_false, if_neg h, QiF (x := z) (by omega) (by omega)]
  have := QkB lb z.toNat z.toNat (Nat.le_refl _) (by omega)
  rw [show ((z.toNat : Nat) : Int) = z by omega] at this
  exact .call this .done
end Go.Proofs
set_option linter.unusedSimpArgs false
namespace Go.Proofs
open Go.Am
variable (lb : Nat)
end Go.Proofs
set_option linter.unusedSimpArgs false
namespace Go.Proofs
open Go.Am
variable (lb : Nat)
end Go.Proofs
