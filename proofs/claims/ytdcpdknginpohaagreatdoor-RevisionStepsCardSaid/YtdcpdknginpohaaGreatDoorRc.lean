/- What the functions of package text and of its reference answer: codes. Conditions: as each says. -/
import Derived.Test.YtdcpdknginpohaaGreatDoorG1
import Derived.Test.YtdcpdknginpohaaGreatDoorRk
set_option linter.unusedSimpArgs false
namespace Go.Proofs
open Go.Am
variable (lb : Nat)
def isUp (c : UInt8) : Bool := decide (65 ≤ c.toNat) && decide (c.toNat ≤ 90)
theorem Qn2 {a : Int} {x y : Int} {p : Bool} (hp : p = (decide (x ≤ a) && decide (a ≤ y))) : (bif decide (a ≥ x) then some (CV.bool (decide (a ≤ y))) else some (CV.bool false)) = some (CV.bool p) := by
 subst hp
 by_cases h : x ≤ a
 ·simp [h]
 ·simp [h]
theorem Qpm (c : UInt8) : Ret lb QhO [.int .u8 (c.toNat : Int)] (.bool (isUp c)) :=
 .top rfl (.all fun n => by rw [Qqu, Qn2 (p := isUp c) (by revert c; exact QmO (by decide +kernel))])
theorem Qgp (c : UInt8) : Ret lb Qfg [.int .u8 (c.toNat : Int)] (.bool (isUp c)) :=
 .top rfl (.all fun n => by rw [Qva, Qn2 (p := isUp c) (by revert c; exact QmO (by decide +kernel))])
theorem QkW (c : UInt8) : Ret lb QcU [.int .u8 (c.toNat : Int)] (.bool (isDg c)) :=
 .top rfl (.all fun n => by rw [Qtd, Qn2 (p := isDg c) (by revert c; exact QmO (by decide +kernel))])
theorem Qtb (c : UInt8) : Ret lb Qko [.int .u8 (c.toNat : Int)] (.bool (isDg c)) :=
 .top rfl (.all fun n => by rw [QuE, Qn2 (p := isDg c) (by revert c; exact QmO (by decide +kernel))])
theorem QpL (c : UInt8) : Ret lb Qc7 [.int .u8 (c.toNat : Int)] (.bool (isUp c || isDg c)) := by
 refine .top rfl (.eq (fun n => by rw [QrR]) ?_)
 refine .call (Qpm lb c) ?_
 simp only [QaF, QaL]
 cases isUp c
 ·simp only [cond_false, Bool.false_or]
  refine .call (QkW lb c) .done
 ·exact .done
theorem QlM (s : Bs) (hs : s.length ≤ 281474976710656) : Ret lb QaX [.str s, .fn QcU] (.bool (s.all fun c => isDg c)) := by
 refine .top rfl (.eq (fun n => by rw [Qjf]) ?_)
 refine Evt.diag (m := s.length) (QqG hs (P := fun p t n k => QcX lb n k s (p.length : Int) = some (.bool (t.all fun c => isDg c))) ?_ ?_ s [] rfl)
 ·refine .all fun n k => ?_
  rw [Qej, decF (by omega), cond_false, Qik]
  rfl
 ·intro p c t hp hlt hat hw hev
  refine hev.imp2 (QkW lb c) fun n hn hc k hk => ?_
  rw [Qej]
  simp only [hlt, decide_true, cond_true, hat, QaF, hc, QaL, hw, List.all_cons]
  cases (isDg c)
  ·rfl
  ·simpa using hn k hk
theorem Qli (s : Bs) (hs : s.length ≤ 281474976710656) : Ret lb QaX [.str s, .fn Qc7] (.bool (s.all fun c => isUp c || isDg c)) := by
 refine .top rfl (.eq (fun n => by rw [QiN]) ?_)
 refine Evt.diag (m := s.length) (QqG hs (P := fun p t n k => QcJ lb n k s (p.length : Int) = some (.bool (t.all fun c => isUp c || isDg c))) ?_ ?_ s [] rfl)
 ·refine .all fun n k => ?_
  rw [Qd2, decF (by omega), cond_false, QhE]
  rfl
 ·intro p c t hp hlt hat hw hev
  refine hev.imp2 (QpL lb c) fun n hn hc k hk => ?_
  rw [Qd2]
  simp only [hlt, decide_true, cond_true, hat, QaF, hc, QaL, hw, List.all_cons]
  cases (isUp c || isDg c)
  ·rfl
  ·simpa using hn k hk
theorem QjK (s : Bs) (m : Int) (hs : s.length ≤ 281474976710656) : Ret lb QbB [.str s, .int .i64 m] (.bool (s.all isUp && ((s.length : Int) == m))) := by
 refine .top rfl (.eq (fun n => by rw [Qr2]) ?_)
 refine Evt.diag (m := s.length) (QqG hs (P := fun p t n k => Qf2 lb n k s m (p.length : Int) = some (.bool (t.all isUp && ((s.length : Int) == m)))) ?_ ?_ s [] rfl)
 ·refine .all fun n k => ?_
  rw [Qhk, decF (by omega), cond_false, Qod]
  rfl
 ·intro p c t hp hlt hat hw hev
  refine hev.imp2 (Qgp lb c) fun n hn hc k hk => ?_
  rw [Qhk]
  simp only [hlt, decide_true, cond_true, hat, QaF, hc, QaL, hw, List.all_cons]
  cases isUp c
  ·rfl
  ·simpa using hn k hk
def QfK (s : Bs) : Bool := decide (s.length = 3) && s.all isUp
def Qjk (s : Bs) : Bool := decide (s.length = 2) && s.all isUp
theorem Qkm (s : Bs) (hs : s.length ≤ 281474976710656) : Ret lb Qgl [.str s] (.bool (QfK s)) := by
 refine .top rfl (.eq (fun n => by rw [Qr1]) ?_)
 refine .call (QjK lb s 3 hs) ?_
 refine .of ?_
 unfold QfK
 rw [Bool.and_comm, show decide (s.length = 3) = ((s.length : Int) == 3) by
  by_cases h : s.length = 3
  ·rw [beqT (by omega), decT h]
  ·rw [beqF (by omega), decF h]]
theorem QpZ (s : Bs) (hs : s.length ≤ 281474976710656) : Ret lb Qiv [.str s] (.bool (Qjk s)) := by
 refine .top rfl (.eq (fun n => by rw [Qri]) ?_)
 refine .call (QjK lb s 2 hs) ?_
 refine .of ?_
 unfold Qjk
 rw [Bool.and_comm, show decide (s.length = 2) = ((s.length : Int) == 2) by
  by_cases h : s.length = 2
  ·rw [beqT (by omega), decT h]
  ·rw [beqF (by omega), decF h]]
def isCd (c : UInt8) : Bool := isUp c || isDg c
def Qes (s : Bs) (a b : Int) : Bool := decide ((s.length : Int) ≥ a) && (decide ((s.length : Int) ≤ b) && s.all isCd)
theorem Qmp (s : Bs) (a b : Int) (hs : s.length ≤ 281474976710656) : Ret lb QhV [.str s, .int .i64 a, .int .i64 b] (.bool (Qes s a b)) := by
 refine .top rfl (.eq (fun n => by rw [QuG]) ?_)
 unfold Qes
 cases decide ((s.length : Int) ≥ a)
 ·exact .done
 cases decide ((s.length : Int) ≤ b)
 ·exact .done
 exact .call (Qli lb s hs) .done
theorem QnJ (s : Bs) (a b : Int) (hs : s.length ≤ 281474976710656) : Ret lb Qcq [.str s, .int .i64 a, .int .i64 b] (.bool (Qes s a b)) := by
 refine .top rfl (.eq (fun n => by rw [QvC]) ?_)
 unfold Qes
 refine Evt.diag (m := s.length) (QqG hs (P := fun p t n k => r01_Code_L1 lb n k s a b (p.length : Int) = some (.bool (decide ((s.length : Int) ≥ a) && (decide ((s.length : Int) ≤ b) && t.all isCd)))) ?_ ?_ s [] rfl)
 ·refine .all fun n k => ?_
  rw [Qjc, decF (by omega), cond_false, Qrr]
  cases decide ((s.length : Int) ≥ a) <;> simp
 ·intro p c t hp hlt hat hw hev
  refine (hev.and (Qtb lb c)).imp2 (Qgp lb c) fun n ⟨hn, hd⟩ hc k hk => ?_
  have hn := hn k hk
  rw [Qjc]
  simp only [hlt, decide_true, cond_true, hat, QaF, hc, hd, QaL, hw, List.all_cons, isCd] at hn ⊢
  cases isUp c
  ·cases isDg c
   ·simp
   ·simpa using hn
  ·simpa using hn
def Qdy (s : Bs) : Bool := Qes s 2 2 && !s.all isDg
theorem Qpi (s : Bs) (hs : s.length ≤ 281474976710656) : Ret lb Qhy [.str s] (.bool (Qdy s)) := by
 refine .top rfl (.eq (fun n => by rw [QpX]) ?_)
 refine .call (Qmp lb s 2 2 hs) ?_
 simp only [QaF, QaL]
 unfold Qdy
 cases Qes s 2 2
 ·exact .done
 ·simp only [cond_true, Bool.true_and]
  exact .call (QlM lb s hs) .done
theorem QyO (c : UInt8) (h : isCd c = true) : isDg c = !isUp c := by
 revert h; revert c; refine QmO ?_; decide +kernel
theorem QpN (s : Bs) (hs : s.length ≤ 281474976710656) : Ret lb Qiu [.str s] (.bool (Qdy s)) := by
 refine .top rfl (.eq (fun n => by rw [Qr0]) ?_)
 refine .call (QnJ lb s 2 2 hs) ?_
 simp only [QaF, QaL]
 unfold Qdy
 cases h : Qes s 2 2
 ·exact .done
 ·simp only [cond_true, Bool.true_and]
  unfold Qes at h
  simp only [Bool.and_eq_true, decide_eq_true_eq] at h
  obtain ⟨h1, h2, h3⟩ := h
  match s, h1, h2, h3 with
  | [x, y], _, _, h3 =>
   simp only [List.all_cons, List.all_nil, Bool.and_true, Bool.and_eq_true] at h3
   simp only [show atS [x, y] 0 = some x from rfl, show atS [x, y] 1 = some y from rfl, QaF, List.all_cons, List.all_nil, Bool.and_true, QyO x h3.1, QyO y h3.2]
   refine .call (Qgp lb x) ?_
   simp only [QaF, QaL]
   cases isUp x
   ·simp only [cond_false]
    refine .call (Qgp lb y) ?_
    exact .of (by simp)
   ·exact .done
  | [], h1, h2, _ => simp at h1
  | [x], h1, h2, _ => simp at h1
  | x :: y :: z :: r, h1, h2, _ => simp at h2; omega
end Go.Proofs
