/- What the functions of package text and of its reference answer: quoted texts. Conditions: as each says. -/
import Derived.Test.YtdcpdknginpohaaGreatDoorG1
import Derived.Test.YtdcpdknginpohaaGreatDoorRk
import Derived.Laws.RangeAny
import Derived.Laws.RangeString
set_option linter.unusedSimpArgs false
namespace Go.Proofs
open Go.Am
variable (lb : Nat)
end Go.Proofs
set_option linter.unusedSimpArgs false
namespace Go.Proofs
open Go.Am
variable (lb : Nat)
def isUp (c : UInt8) : Bool := decide (65 ≤ c.toNat) && decide (c.toNat ≤ 90)
theorem QqC {a : Int} {x y : Int} {p : Bool} (hp : p = (decide (x ≤ a) && decide (a ≤ y))) : (bif decide (a ≥ x) then some (CV.bool (decide (a ≤ y))) else some (CV.bool false)) = some (CV.bool p) := by
 subst hp
 by_cases h : x ≤ a
 ·simp [h]
 ·simp [h]
theorem Qed (c : UInt8) : Ret lb Qdo [.int .u8 (c.toNat : Int)] (.bool (isUp c)) :=
 .top rfl (.all fun n => by rw [QpI, QqC (p := isUp c) (by revert c; exact Qo9 (by decide +kernel))])
theorem Qof (c : UInt8) : Ret lb Qhw [.int .u8 (c.toNat : Int)] (.bool (isDg c)) :=
 .top rfl (.all fun n => by rw [Qpf, QqC (p := isDg c) (by revert c; exact Qo9 (by decide +kernel))])
theorem QgZ (s : Bs) (m : Int) (hs : s.length ≤ 281474976710656) : Ret lb Qa3 [.str s, .int .i64 m] (.bool (s.all isUp && ((s.length : Int) == m))) := by
 refine .top rfl (.eq (fun n => by rw [Qm0]) ?_)
 refine Evt.diag (m := s.length) (QrA hs (P := fun p t n k => QdT lb n k s m (p.length : Int) = some (.bool (t.all isUp && ((s.length : Int) == m)))) ?_ ?_ s [] rfl)
 ·refine .all fun n k => ?_
  rw [QeX, decF (by omega), cond_false, Qkv]
  rfl
 ·intro p c t hp hlt hat hw hev
  refine hev.imp2 (Qed lb c) fun n hn hc k hk => ?_
  rw [QeX]
  simp only [hlt, decide_true, cond_true, hat, QaB, hc, QaI, hw, List.all_cons]
  cases isUp c
  ·rfl
  ·simpa using hn k hk
def QdK (s : Bs) : Bool := decide (s.length = 3) && s.all isUp
def Qgw (s : Bs) : Bool := decide (s.length = 2) && s.all isUp
theorem QgX (s : Bs) (hs : s.length ≤ 281474976710656) : Ret lb Qeb [.str s] (.bool (QdK s)) := by
 refine .top rfl (.eq (fun n => by rw [Qnk]) ?_)
 refine .call (QgZ lb s 3 hs) ?_
 refine .of ?_
 unfold QdK
 rw [Bool.and_comm, show decide (s.length = 3) = ((s.length : Int) == 3) by
  by_cases h : s.length = 3
  ·rw [beqT (by omega), decT h]
  ·rw [beqF (by omega), decF h]]
theorem Ql3 (s : Bs) (hs : s.length ≤ 281474976710656) : Ret lb QfX [.str s] (.bool (Qgw s)) := by
 refine .top rfl (.eq (fun n => by rw [Qns]) ?_)
 refine .call (QgZ lb s 2 hs) ?_
 refine .of ?_
 unfold Qgw
 rw [Bool.and_comm, show decide (s.length = 2) = ((s.length : Int) == 2) by
  by_cases h : s.length = 2
  ·rw [beqT (by omega), decT h]
  ·rw [beqF (by omega), decF h]]
def isCd (c : UInt8) : Bool := isUp c || isDg c
def QeJ (s : Bs) (a b : Int) : Bool := decide ((s.length : Int) ≥ a) && (decide ((s.length : Int) ≤ b) && s.all isCd)
theorem Qj1 (s : Bs) (a b : Int) (hs : s.length ≤ 281474976710656) : Ret lb QbB [.str s, .int .i64 a, .int .i64 b] (.bool (QeJ s a b)) := by
 refine .top rfl (.eq (fun n => by rw [Qqt]) ?_)
 unfold QeJ
 refine Evt.diag (m := s.length) (QrA hs (P := fun p t n k => r01_Code_L1 lb n k s a b (p.length : Int) = some (.bool (decide ((s.length : Int) ≥ a) && (decide ((s.length : Int) ≤ b) && t.all isCd)))) ?_ ?_ s [] rfl)
 ·refine .all fun n k => ?_
  rw [QgD, decF (by omega), cond_false, Qnn]
  cases decide ((s.length : Int) ≥ a) <;> simp
 ·intro p c t hp hlt hat hw hev
  refine (hev.and (Qof lb c)).imp2 (Qed lb c) fun n ⟨hn, hd⟩ hc k hk => ?_
  have hn := hn k hk
  rw [QgD]
  simp only [hlt, decide_true, cond_true, hat, QaB, hc, hd, QaI, hw, List.all_cons, isCd] at hn ⊢
  cases isUp c
  ·cases isDg c
   ·simp
   ·simpa using hn
  ·simpa using hn
def Qem (s : Bs) : Bool := QeJ s 2 2 && !s.all isDg
theorem Qtv (c : UInt8) (h : isCd c = true) : isDg c = !isUp c := by
 revert h; revert c; refine Qo9 ?_; decide +kernel
theorem Ql5 (s : Bs) (hs : s.length ≤ 281474976710656) : Ret lb QfT [.str s] (.bool (Qem s)) := by
 refine .top rfl (.eq (fun n => by rw [QmT]) ?_)
 refine .call (Qj1 lb s 2 2 hs) ?_
 simp only [QaB, QaI]
 unfold Qem
 cases h : QeJ s 2 2
 ·exact .done
 ·simp only [cond_true, Bool.true_and]
  unfold QeJ at h
  simp only [Bool.and_eq_true, decide_eq_true_eq] at h
  obtain ⟨h1, h2, h3⟩ := h
  match s, h1, h2, h3 with
  | [x, y], _, _, h3 =>
   simp only [List.all_cons, List.all_nil, Bool.and_true, Bool.and_eq_true] at h3
   simp only [show atS [x, y] 0 = some x from rfl, show atS [x, y] 1 = some y from rfl, QaB, List.all_cons, List.all_nil, Bool.and_true, Qtv x h3.1, Qtv y h3.2]
   refine .call (Qed lb x) ?_
   simp only [QaB, QaI]
   cases isUp x
   ·simp only [cond_false]
    refine .call (Qed lb y) ?_
    exact .of (by simp)
   ·exact .done
  | [], h1, h2, _ => simp at h1
  | [x], h1, h2, _ => simp at h1
  | x :: y :: z :: r, h1, h2, _ => simp at h2; omega
end Go.Proofs
set_option linter.unusedSimpArgs false
namespace Go.Proofs
open Go.Am
variable (lb : Nat)
end Go.Proofs
set_option linter.unusedSimpArgs false
namespace Go.Proofs
open Go.Am
variable (lb : Nat)
end Go.Proofs
set_option linter.unusedSimpArgs false
namespace Go.Proofs
open Go.Am
variable (lb : Nat)
theorem Qgn {x : Int} (h0 : 0 ≤ x) (h1 : x < 18446744073709551616) : IntKind.wrap .u64 x = x := by
 unfold IntKind.wrap
 simp only [IntKind.bits, IntKind.signed]
 simp
 omega
theorem Qny : ∀ d, d < 10 → (([48, 49, 50, 51, 52, 53, 54, 55, 56, 57] : Bs).take (d + 1)).drop d = [UInt8.ofNat (48 + d)] := by decide +kernel
theorem Qia : ∀ (N u : Nat), u ≤ N → u < 18446744073709551616 → Ret lb QdL [.int .u64 (u : Int)] (.str (Lib.decDigits u)) := by
 intro N
 induction N with
 | zero =>
  intro u hu _
  have : u = 0 := by omega
  subst this
  refine .top rfl (.all fun n => ?_)
  rw [Qi7, Lib.decDigits, dif_pos (by decide)]
  rfl
 | succ N ih =>
  intro u hu h64
  refine .top rfl (.eq (fun n => by rw [Qi7]) ?_)
  by_cases h : u < 10
  ·simp only [decT (show (u : Int) < 10 by omega), cond_true, Qgn (x := (u : Int) + 1) (by omega) (by omega)]
   refine .chk (decT ⟨by omega, by omega⟩) (.chk (decT ⟨by omega, by omega⟩) ?_)
   rw [Lib.decDigits, dif_pos h, show ((u : Int) + 1).toNat = u + 1 by omega, Int.toNat_natCast, Qny u h]
   exact .done
  ·simp only [decF (show ¬ (u : Int) < 10 by omega), cond_false]
   have e1 : IntKind.wrap .u64 (Int.tdiv (u : Int) 10) = ((u / 10 : Nat) : Int) := by
    rw [show Int.tdiv (u : Int) 10 = ((u / 10 : Nat) : Int) from rfl, Qgn (by omega) (by omega)]
   have e2 : Int.tmod (u : Int) 10 = ((u % 10 : Nat) : Int) := rfl
   have e3 : IntKind.wrap .u64 (((u % 10 : Nat) : Int) + 1) = ((u % 10 + 1 : Nat) : Int) := by rw [Qgn (by omega) (by omega)]; omega
   simp only [e1, e2, e3]
   refine .call (ih (u / 10) (by omega) (by omega)) ?_
   refine .chk (decT ⟨by omega, by omega⟩) (.chk (decT ⟨by omega, by omega⟩) ?_)
   simp only [QaB, QaR, Int.toNat_natCast, Qny _ (show u % 10 < 10 by omega)]
   rw [Lib.decDigits.eq_def u, dif_neg h]
   refine .chk (decT ?_) .done
   have := QdI (z := ((u / 10 : Nat) : Int)) (by omega) (by omega)
   unfold Lib.itoa at this
   rw [if_neg (by omega), Int.toNat_natCast] at this
   simp only [List.length_cons, List.length_nil]
   omega
theorem Qdq (z : Int) (h0 : -9223372036854775808 ≤ z) (h1 : z ≤ 9223372036854775807) : Ret lb QcE [.int .i64 z] (.str (Lib.itoa z)) := by
 refine .top rfl (.eq (fun n => by rw [QmS]) ?_)
 unfold Lib.itoa
 by_cases h : z < 0
 ·simp only [decT h, cond_true, if_pos h, QaF (x := z + 1) (by omega) (by omega), QaF (x := 0 - (z + 1)) (by omega) (by omega), Qgn (x := 0 - (z + 1)) (by omega) (by omega), Qgn (x := 0 - (z + 1) + 1) (by omega) (by omega)]
  rw [show 0 - (z + 1) + 1 = (z.natAbs : Int) by omega]
  refine .call (Qia lb z.natAbs z.natAbs (Nat.le_refl _) (by omega)) ?_
  simp only [QaB, QaR]
  refine .chk (decT ?_) .done
  have := QdI h0 h1
  unfold Lib.itoa at this
  rw [if_pos h] at this
  simp only [List.length_cons, List.length_nil] at this ⊢
  omega
 ·simp only [decF h, cond_false, if_neg h, Qgn (x := z) (by omega) (by omega)]
  have := Qia lb z.toNat z.toNat (Nat.le_refl _) (by omega)
  rw [show ((z.toNat : Nat) : Int) = z by omega] at this
  exact .call this .done
end Go.Proofs
set_option linter.unusedSimpArgs false
namespace Go.Proofs
open Go.Am
variable (lb : Nat)
end Go.Proofs
set_option linter.unusedSimpArgs false
namespace Go.Proofs
open Go.Am
variable (lb : Nat)
end Go.Proofs
