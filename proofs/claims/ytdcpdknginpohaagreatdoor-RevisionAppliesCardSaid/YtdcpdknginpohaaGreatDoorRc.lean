/- What the functions of package text and of its reference answer: codes. Conditions: as each says. -/
import Derived.Test.YtdcpdknginpohaaGreatDoorG1
import Derived.Test.YtdcpdknginpohaaGreatDoorRk
set_option linter.unusedSimpArgs false
namespace Go.Proofs
open Go.Am
variable (lb : Nat)
def isUp (c : UInt8) : Bool := decide (65 ≤ c.toNat) && decide (c.toNat ≤ 90)
theorem QnT {a : Int} {x y : Int} {p : Bool} (hp : p = (decide (x ≤ a) && decide (a ≤ y))) : (bif decide (a ≥ x) then some (CV.bool (decide (a ≤ y))) else some (CV.bool false)) = some (CV.bool p) := by
 subst hp
 by_cases h : x ≤ a
 ·simp [h]
 ·simp [h]
theorem Qpu (c : UInt8) : Ret lb Qhq [.int .u8 (c.toNat : Int)] (.bool (isUp c)) :=
 .top rfl (.all fun n => by rw [QqC, QnT (p := isUp c) (by revert c; exact QnD (by decide +kernel))])
theorem Qgd (c : UInt8) : Ret lb Qe8 [.int .u8 (c.toNat : Int)] (.bool (isUp c)) :=
 .top rfl (.all fun n => by rw [Qte, QnT (p := isUp c) (by revert c; exact QnD (by decide +kernel))])
theorem QkS (c : UInt8) : Ret lb QcM [.int .u8 (c.toNat : Int)] (.bool (isDg c)) :=
 .top rfl (.all fun n => by rw [QsK, QnT (p := isDg c) (by revert c; exact QnD (by decide +kernel))])
theorem QsZ (c : UInt8) : Ret lb Qkr [.int .u8 (c.toNat : Int)] (.bool (isDg c)) :=
 .top rfl (.all fun n => by rw [Qt4, QnT (p := isDg c) (by revert c; exact QnD (by decide +kernel))])
theorem QqR (c : UInt8) : Ret lb Qc0 [.int .u8 (c.toNat : Int)] (.bool (isUp c || isDg c)) := by
 refine .top rfl (.eq (fun n => by rw [Qrx]) ?_)
 refine .call (Qpu lb c) ?_
 simp only [QaF, QaK]
 cases isUp c
 ·simp only [cond_false, Bool.false_or]
  refine .call (QkS lb c) .done
 ·exact .done
theorem Qlz (s : Bs) (hs : s.length ≤ 281474976710656) : Ret lb QaV [.str s, .fn QcM] (.bool (s.all fun c => isDg c)) := by
 refine .top rfl (.eq (fun n => by rw [Qjd]) ?_)
 refine Evt.diag (m := s.length) (QpI hs (P := fun p t n k => QcN lb n k s (p.length : Int) = some (.bool (t.all fun c => isDg c))) ?_ ?_ s [] rfl)
 ·refine .all fun n k => ?_
  rw [Qee, decF (by omega), cond_false, Qie]
  rfl
 ·intro p c t hp hlt hat hw hev
  refine hev.imp2 (QkS lb c) fun n hn hc k hk => ?_
  rw [Qee]
  simp only [hlt, decide_true, cond_true, hat, QaF, hc, QaK, hw, List.all_cons]
  cases (isDg c)
  ·rfl
  ·simpa using hn k hk
theorem Qlc (s : Bs) (hs : s.length ≤ 281474976710656) : Ret lb QaV [.str s, .fn Qc0] (.bool (s.all fun c => isUp c || isDg c)) := by
 refine .top rfl (.eq (fun n => by rw [QiP]) ?_)
 refine Evt.diag (m := s.length) (QpI hs (P := fun p t n k => QcG lb n k s (p.length : Int) = some (.bool (t.all fun c => isUp c || isDg c))) ?_ ?_ s [] rfl)
 ·refine .all fun n k => ?_
  rw [Qd1, decF (by omega), cond_false, QhC]
  rfl
 ·intro p c t hp hlt hat hw hev
  refine hev.imp2 (QqR lb c) fun n hn hc k hk => ?_
  rw [Qd1]
  simp only [hlt, decide_true, cond_true, hat, QaF, hc, QaK, hw, List.all_cons]
  cases (isUp c || isDg c)
  ·rfl
  ·simpa using hn k hk
theorem QjZ (s : Bs) (m : Int) (hs : s.length ≤ 281474976710656) : Ret lb Qby [.str s, .int .i64 m] (.bool (s.all isUp && ((s.length : Int) == m))) := by
 refine .top rfl (.eq (fun n => by rw [Qrf]) ?_)
 refine Evt.diag (m := s.length) (QpI hs (P := fun p t n k => QfW lb n k s m (p.length : Int) = some (.bool (t.all isUp && ((s.length : Int) == m)))) ?_ ?_ s [] rfl)
 ·refine .all fun n k => ?_
  rw [Qhg, decF (by omega), cond_false, Qof]
  rfl
 ·intro p c t hp hlt hat hw hev
  refine hev.imp2 (Qgd lb c) fun n hn hc k hk => ?_
  rw [Qhg]
  simp only [hlt, decide_true, cond_true, hat, QaF, hc, QaK, hw, List.all_cons]
  cases isUp c
  ·rfl
  ·simpa using hn k hk
def QfF (s : Bs) : Bool := decide (s.length = 3) && s.all isUp
def Qjl (s : Bs) : Bool := decide (s.length = 2) && s.all isUp
theorem QjS (s : Bs) (hs : s.length ≤ 281474976710656) : Ret lb Qgg [.str s] (.bool (QfF s)) := by
 refine .top rfl (.eq (fun n => by rw [QrD]) ?_)
 refine .call (QjZ lb s 3 hs) ?_
 refine .of ?_
 unfold QfF
 rw [Bool.and_comm, show decide (s.length = 3) = ((s.length : Int) == 3) by
  by_cases h : s.length = 3
  ·rw [beqT (by omega), decT h]
  ·rw [beqF (by omega), decF h]]
theorem QqT (s : Bs) (hs : s.length ≤ 281474976710656) : Ret lb Qij [.str s] (.bool (Qjl s)) := by
 refine .top rfl (.eq (fun n => by rw [QrI]) ?_)
 refine .call (QjZ lb s 2 hs) ?_
 refine .of ?_
 unfold Qjl
 rw [Bool.and_comm, show decide (s.length = 2) = ((s.length : Int) == 2) by
  by_cases h : s.length = 2
  ·rw [beqT (by omega), decT h]
  ·rw [beqF (by omega), decF h]]
def isCd (c : UInt8) : Bool := isUp c || isDg c
def Qes (s : Bs) (a b : Int) : Bool := decide ((s.length : Int) ≥ a) && (decide ((s.length : Int) ≤ b) && s.all isCd)
theorem Ql8 (s : Bs) (a b : Int) (hs : s.length ≤ 281474976710656) : Ret lb Qh0 [.str s, .int .i64 a, .int .i64 b] (.bool (Qes s a b)) := by
 refine .top rfl (.eq (fun n => by rw [Qtu]) ?_)
 unfold Qes
 cases decide ((s.length : Int) ≥ a)
 ·exact .done
 cases decide ((s.length : Int) ≤ b)
 ·exact .done
 exact .call (Qlc lb s hs) .done
theorem QmU (s : Bs) (a b : Int) (hs : s.length ≤ 281474976710656) : Ret lb Qcm [.str s, .int .i64 a, .int .i64 b] (.bool (Qes s a b)) := by
 refine .top rfl (.eq (fun n => by rw [Qvd]) ?_)
 unfold Qes
 refine Evt.diag (m := s.length) (QpI hs (P := fun p t n k => r01_Code_L1 lb n k s a b (p.length : Int) = some (.bool (decide ((s.length : Int) ≥ a) && (decide ((s.length : Int) ≤ b) && t.all isCd)))) ?_ ?_ s [] rfl)
 ·refine .all fun n k => ?_
  rw [Qi0, decF (by omega), cond_false, Qq6]
  cases decide ((s.length : Int) ≥ a) <;> simp
 ·intro p c t hp hlt hat hw hev
  refine (hev.and (QsZ lb c)).imp2 (Qgd lb c) fun n ⟨hn, hd⟩ hc k hk => ?_
  have hn := hn k hk
  rw [Qi0]
  simp only [hlt, decide_true, cond_true, hat, QaF, hc, hd, QaK, hw, List.all_cons, isCd] at hn ⊢
  cases isUp c
  ·cases isDg c
   ·simp
   ·simpa using hn
  ·simpa using hn
def Qdt (s : Bs) : Bool := Qes s 2 2 && !s.all isDg
theorem Qpm (s : Bs) (hs : s.length ≤ 281474976710656) : Ret lb Qhx [.str s] (.bool (Qdt s)) := by
 refine .top rfl (.eq (fun n => by rw [QqE]) ?_)
 refine .call (Ql8 lb s 2 2 hs) ?_
 simp only [QaF, QaK]
 unfold Qdt
 cases Qes s 2 2
 ·exact .done
 ·simp only [cond_true, Bool.true_and]
  exact .call (Qlz lb s hs) .done
theorem Qyu (c : UInt8) (h : isCd c = true) : isDg c = !isUp c := by
 revert h; revert c; refine QnD ?_; decide +kernel
theorem QqP (s : Bs) (hs : s.length ≤ 281474976710656) : Ret lb Qin [.str s] (.bool (Qdt s)) := by
 refine .top rfl (.eq (fun n => by rw [Qrk]) ?_)
 refine .call (QmU lb s 2 2 hs) ?_
 simp only [QaF, QaK]
 unfold Qdt
 cases h : Qes s 2 2
 ·exact .done
 ·simp only [cond_true, Bool.true_and]
  unfold Qes at h
  simp only [Bool.and_eq_true, decide_eq_true_eq] at h
  obtain ⟨h1, h2, h3⟩ := h
  match s, h1, h2, h3 with
  | [x, y], _, _, h3 =>
   simp only [List.all_cons, List.all_nil, Bool.and_true, Bool.and_eq_true] at h3
   simp only [show atS [x, y] 0 = some x from rfl, show atS [x, y] 1 = some y from rfl, QaF, List.all_cons, List.all_nil, Bool.and_true, Qyu x h3.1, Qyu y h3.2]
   refine .call (Qgd lb x) ?_
   simp only [QaF, QaK]
   cases isUp x
   ·simp only [cond_false]
    refine .call (Qgd lb y) ?_
    exact .of (by simp)
   ·exact .done
  | [], h1, h2, _ => simp at h1
  | [x], h1, h2, _ => simp at h1
  | x :: y :: z :: r, h1, h2, _ => simp at h2; omega
end Go.Proofs
