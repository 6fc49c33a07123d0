/- What the functions of package text and of its reference answer: codes. Conditions: as each says. -/
import Derived.Test.YtigmcfhmpcajlaaGreatDoorG1
import Derived.Test.YtigmcfhmpcajlaaGreatDoorRk
import Derived.Lib.SplitLaws
set_option linter.unusedSimpArgs false
namespace Go.Proofs
open Go.Am
variable (lb : Nat)
def isUp (c : UInt8) : Bool := decide (65 ≤ c.toNat) && decide (c.toNat ≤ 90)
theorem QoA {a : Int} {x y : Int} {p : Bool} (hp : p = (decide (x ≤ a) && decide (a ≤ y))) : (bif decide (a ≥ x) then some (CV.bool (decide (a ≤ y))) else some (CV.bool false)) = some (CV.bool p) := by
 subst hp
 by_cases h : x ≤ a
 ·simp [h]
 ·simp [h]
theorem Qem (c : UInt8) : Ret lb QaZ [.int .u8 (c.toNat : Int)] (.bool (isUp c)) :=
 .top rfl (.all fun n => by rw [Qk3, QoA (p := isUp c) (by revert c; exact QpX (by decide +kernel))])
theorem Qhc (c : UInt8) : Ret lb QbF [.int .u8 (c.toNat : Int)] (.bool (isDg c)) :=
 .top rfl (.all fun n => by rw [Qm2, QoA (p := isDg c) (by revert c; exact QpX (by decide +kernel))])
theorem QkQ (c : UInt8) : Ret lb QbL [.int .u8 (c.toNat : Int)] (.bool (isUp c || isDg c)) := by
 refine .top rfl (.eq (fun n => by rw [QlD]) ?_)
 refine .call (Qem lb c) ?_
 simp only [Qfu, Qbl]
 cases isUp c
 ·simp only [cond_false, Bool.false_or]
  refine .call (Qhc lb c) .done
 ·exact .done
theorem Qin (s : Bs) (hs : s.length ≤ 281474976710656) : Ret lb Qao [.str s, .fn QbF] (.bool (s.all fun c => isDg c)) := by
 refine .top rfl (.eq (fun n => by rw [Qgu]) ?_)
 refine Evt.diag (m := s.length) (Qm4 hs (P := fun p t n k => QbG lb n k s (p.length : Int) = some (.bool (t.all fun c => isDg c))) ?_ ?_ s [] rfl)
 ·refine .all fun n k => ?_
  rw [QcM, decF (by omega), cond_false, QfC]
  rfl
 ·intro p c t hp hlt hat hw hev
  refine hev.imp2 (Qhc lb c) fun n hn hc k hk => ?_
  rw [QcM]
  simp only [hlt, decide_true, cond_true, hat, Qfu, hc, Qbl, hw, List.all_cons]
  cases (isDg c)
  ·rfl
  ·simpa using hn k hk
theorem Qd0 (s : Bs) (hs : s.length ≤ 281474976710656) : Ret lb Qao [.str s, .fn QaZ] (.bool (s.all fun c => isUp c)) := by
 refine .top rfl (.eq (fun n => by rw [QfP]) ?_)
 refine Evt.diag (m := s.length) (Qm4 hs (P := fun p t n k => Qbu lb n k s (p.length : Int) = some (.bool (t.all fun c => isUp c))) ?_ ?_ s [] rfl)
 ·refine .all fun n k => ?_
  rw [Qcv, decF (by omega), cond_false, QeL]
  rfl
 ·intro p c t hp hlt hat hw hev
  refine hev.imp2 (Qem lb c) fun n hn hc k hk => ?_
  rw [Qcv]
  simp only [hlt, decide_true, cond_true, hat, Qfu, hc, Qbl, hw, List.all_cons]
  cases (isUp c)
  ·rfl
  ·simpa using hn k hk
theorem QhG (s : Bs) (hs : s.length ≤ 281474976710656) : Ret lb Qao [.str s, .fn QbL] (.bool (s.all fun c => isUp c || isDg c)) := by
 refine .top rfl (.eq (fun n => by rw [QfZ]) ?_)
 refine Evt.diag (m := s.length) (Qm4 hs (P := fun p t n k => Qbz lb n k s (p.length : Int) = some (.bool (t.all fun c => isUp c || isDg c))) ?_ ?_ s [] rfl)
 ·refine .all fun n k => ?_
  rw [QcD, decF (by omega), cond_false, Qfi]
  rfl
 ·intro p c t hp hlt hat hw hev
  refine hev.imp2 (QkQ lb c) fun n hn hc k hk => ?_
  rw [QcD]
  simp only [hlt, decide_true, cond_true, hat, Qfu, hc, Qbl, hw, List.all_cons]
  cases (isUp c || isDg c)
  ·rfl
  ·simpa using hn k hk
def Qei (s : Bs) : Bool := decide (s.length = 3) && s.all isUp
def QeI (s : Bs) : Bool := decide (s.length = 1) && s.all isUp
theorem Qgc (s : Bs) (hs : s.length ≤ 281474976710656) : Ret lb QdI [.str s] (.bool (Qei s)) := by
 refine .top rfl (.eq (fun n => by rw [Qlj]) ?_)
 unfold Qei
 by_cases h : s.length = 3
 ·simp only [beqT (show (s.length : Int) = 3 by omega), cond_true, h, decide_true, Bool.true_and]
  exact .call (Qd0 lb s hs) .done
 ·simp only [beqF (show (s.length : Int) ≠ 3 by omega), cond_false, h, decide_false, Bool.false_and]
  exact .of trivial
theorem QlH (s : Bs) : Ret lb Qgd [.str s] (.bool (QeI s)) := by
 refine .top rfl (.eq (fun n => by rw [QmP]) ?_)
 unfold QeI
 match s with
 | [c] =>
  simp only [beqT (show ((([c] : Bs).length : Int)) = 1 from rfl), cond_true, show atS [c] 0 = some c from rfl, Qfu]
  refine .call (Qem lb c) ?_
  exact .of (by simp)
 | [] => exact .done
 | c :: d :: t =>
  simp only [beqF (show (((c :: d :: t : Bs).length : Int)) ≠ 1 by simp only [List.length_cons]; omega), cond_false]
  exact .of (by simp)
def isCd (c : UInt8) : Bool := isUp c || isDg c
def Qc5 (s : Bs) (a b : Int) : Bool := decide ((s.length : Int) ≥ a) && (decide ((s.length : Int) ≤ b) && s.all isCd)
theorem Qea (s : Bs) (a b : Int) (hs : s.length ≤ 281474976710656) : Ret lb Qde [.str s, .int .i64 a, .int .i64 b] (.bool (Qc5 s a b)) := by
 refine .top rfl (.eq (fun n => by rw [QnE]) ?_)
 unfold Qc5
 cases decide ((s.length : Int) ≥ a)
 ·exact .done
 cases decide ((s.length : Int) ≤ b)
 ·exact .done
 exact .call (QhG lb s hs) .done
def Qij (s : Bs) : Bool := Qc5 s 2 2 && !s.all isDg
theorem QkI (s : Bs) (hs : s.length ≤ 281474976710656) : Ret lb QeY [.str s] (.bool (Qij s)) := by
 refine .top rfl (.eq (fun n => by rw [QkK]) ?_)
 refine .call (Qea lb s 2 2 hs) ?_
 simp only [Qfu, Qbl]
 unfold Qij
 cases Qc5 s 2 2
 ·exact .done
 ·simp only [cond_true, Bool.true_and]
  exact .call (Qin lb s hs) .done
end Go.Proofs
set_option linter.unusedSimpArgs false
namespace Go.Proofs
open Go.Am
variable (lb : Nat)
theorem Qeh (z : Int) (h0 : -9223372036854775808 ≤ z) (h1 : z ≤ 9223372036854775807) : Ret lb Qck [.int .i64 z] (.str (Lib.itoa z)) := by
 refine .top rfl (.eq (fun n => by rw [QkX]) ?_)
 refine .call (v := .str (Lib.itoa z)) (.lib rfl ?_) .done
 simp only [Qh1, if_pos (And.intro h0 h1), Qnf h0 h1]
end Go.Proofs
set_option linter.unusedSimpArgs false
namespace Go.Proofs
open Go.Am
variable (lb : Nat)
def Qbm (c : UInt8) : Bs → List Bs
 | [] => [[]]
 | x :: r => if x = c then [] :: Qbm c r else match Qbm c r with
  | w :: ws => (x :: w) :: ws
  | [] => [[x]]
theorem QmD (c : UInt8) : ∀ s, Qbm c s ≠ []
 | [] => by simp [Qbm]
 | x :: r => by
  unfold Qbm
  split
  ·simp
  ·split <;> simp
theorem Qit (c : UInt8) (l : Bs) : Lib.index (c :: l) [c] = 0 := by
 rw [Lib.index]
 simp
theorem QmQ {b c : UInt8} (l : Bs) (h : b ≠ c) : Lib.index (b :: l) [c] = if Lib.index l [c] = -1 then -1 else Lib.index l [c] + 1 := by
 rw [Lib.index]
 have : ¬ c = b := fun q => h q.symm
 simp [this]
theorem Qoh {c : UInt8} {l : Bs} (h : Lib.count l [c] ≠ 0) : Lib.index l [c] ≠ -1 := by
 intro q
 apply h
 unfold Lib.count
 rw [Lib.countFrom]
 simp [q]
theorem Qik {c : UInt8} {k : Nat} {l : Bs} (h : Lib.index l [c] ≠ -1) : Lib.splitK [c] 0 (k + 1) l = l.take (Lib.index l [c]).toNat :: Lib.splitK [c] 0 k (l.drop ((Lib.index l [c]).toNat + 1)) := by
 rw [Lib.splitK]
 have : (Lib.index l [c] == -1) = false := by simpa using h
 simp [this]
theorem Qmm (c : UInt8) : ∀ s : Bs, Lib.split s [c] = Qbm c s
 | [] => by simp [Lib.split, Lib.count, Lib.countFrom, Lib.index, Qbm, Lib.splitK]
 | x :: l => by
  have ih := Qmm c l
  unfold Lib.split at ih ⊢
  by_cases h : x = c
  ·subst h
   rw [Lib.count_cons_eq, Nat.add_comm 1, Qik (by rw [Qit]; decide), Qit]
   simp only [Qbm, if_true]
   simpa using ih
  ·rw [Lib.count_cons_ne x c l h]
   cases hk : Lib.count l [c] with
   | zero =>
    rw [hk] at ih
    simp only [Lib.splitK] at ih ⊢
    simp [Qbm, h, ← ih]
   | succ k =>
    have hi := Qoh (c := c) (l := l) (by omega)
    have hge := Lib.index_ge l [c]
    rw [hk, Qik hi] at ih
    have hx : Lib.index (x :: l) [c] = Lib.index l [c] + 1 := by rw [QmQ l h, if_neg hi]
    rw [Qik (by rw [hx]; omega), hx]
    obtain ⟨i, hi'⟩ : ∃ i : Nat, Lib.index l [c] = i := ⟨(Lib.index l [c]).toNat, by omega⟩
    rw [hi'] at ih ⊢
    rw [show ((i : Int) + 1).toNat = i + 1 by omega, List.take_succ_cons, List.drop_succ_cons]
    rw [Int.toNat_natCast] at ih
    simp [Qbm, h, ← ih]
def nmB (b : Bool) : Bs → Bool
 | [] => !b
 | c :: r => if isUp c then nmB false r else if c.toNat = 32 then !b && nmB true r else false
def QgH (s : Bs) : Bool := decide (s.length ≤ 30) && nmB true s
def QdH (ws : List Bs) : Bool := ws.all fun w => !w.isEmpty && w.all isUp
theorem Qr3 {c : UInt8} (h : isUp c = true) : c.toNat ≠ 32 ∧ c ≠ 32 := by
 simp only [isUp, Bool.and_eq_true, decide_eq_true_eq] at h
 exact ⟨by omega, fun q => by subst q; simp at h⟩
theorem Qnt : ∀ s : Bs, QdH (Qbm 32 s) = nmB true s ∧ (match Qbm 32 s with
  | w :: ws => w.all isUp && QdH ws
  | [] => false) = nmB false s
 | [] => by simp [Qbm, QdH, nmB]
 | c :: r => by
  obtain ⟨h1, h2⟩ := Qnt r
  unfold Qbm nmB
  by_cases hu : isUp c = true
  ·have := Qr3 hu
   rw [if_neg this.2]
   simp only [hu, if_true]
   cases hs : Qbm 32 r with
   | nil => exact (QmD 32 r hs).elim
   | cons w ws =>
    rw [hs] at h2
    simp only at h2
    constructor
    ·rw [← h2]; simp [QdH, hu]
    ·rw [← h2]; simp [hu]
  ·by_cases h32 : c.toNat = 32
   ·have hc : c = 32 := Qp7 h32
    simp only [hu, hc, if_true, Bool.false_eq_true, if_false]
    have hu32 : isUp 32 = false := rfl
    constructor
    ·simp [QdH, hu32]
    ·simp [h1, hu32]
   ·have hc : c ≠ 32 := fun q => h32 (by rw [q]; rfl)
    simp only [hu, hc, h32, if_false, Bool.false_eq_true]
    cases hs : Qbm 32 r with
    | nil => exact (QmD 32 r hs).elim
    | cons w ws => simp [QdH, hu]
theorem Qlu (c : UInt8) : ∀ s, (Qbm c s).length ≤ s.length + 1 ∧ ∀ w ∈ Qbm c s, w.length ≤ s.length
 | [] => by simp [Qbm]
 | x :: r => by
  obtain ⟨h1, h2⟩ := Qlu c r
  unfold Qbm
  split
  ·refine ⟨by simp; omega, fun w hw => ?_⟩
   rcases List.mem_cons.1 hw with rfl | hw
   ·simp
   ·have := h2 w hw; simp; omega
  ·split
   ·rename_i w ws hs
    rw [hs] at h1 h2
    refine ⟨by simp at h1 ⊢; omega, fun v hv => ?_⟩
    rcases List.mem_cons.1 hv with rfl | hv
    ·have := h2 w (List.mem_cons_self ..); simp; omega
    ·have := h2 v (List.mem_cons_of_mem _ hv); simp; omega
   ·refine ⟨by simp, fun v hv => ?_⟩
    simp only [List.mem_cons, List.not_mem_nil, or_false] at hv
    subst hv; simp
theorem QpI (s : Bs) (c : UInt8) (hs : s.length ≤ 1000000000) : Ret lb Qdi [.str s, .str [c]] (.list false (scv (Qbm c s))) := by
 refine .lib rfl ?_
 unfold QgD
 simp only
 rw [if_pos ⟨by omega, by simp⟩, Qmm]
 rfl
theorem QmR (s : Bs) (hs : s.length ≤ 1000000000) : Ret lb Qa3 [.str s] (.bool (QgH s)) := by
 refine .top rfl (.eq (fun n => by rw [Qi9]) ?_)
 unfold QgH
 by_cases h : s.length ≤ 30
 ·simp only [decF (show ¬ (s.length : Int) > 30 by omega), cond_false, h, decide_true, Bool.true_and]
  refine .call (QpI lb s 32 hs) ?_
  simp only [Qfu, Qq0]
  rw [← (Qnt s).1]
  obtain ⟨h1, h2⟩ := Qlu 32 s
  generalize Qbm 32 s = l at h1 h2
  refine Evt.diag (m := l.length) (Qfs (enc := fun w => [CV.str w]) (l := l) (by omega) (P := fun p t n k => text_Name_L1 lb n k s (.list false (scv l)) (false, scv l) (p.length : Int) = some (.bool (QdH t))) ?_ ?_ l [] rfl)
  ·refine .all fun n k => ?_
   rw [QfX, decF (by rw [Qrw]; omega), cond_false, Qk9]
   rfl
  ·intro p w t hp hlt hat hw hev
   have hwl := h2 w (by rw [← hp]; simp)
   refine hev.imp2 (Qd0 lb w (by omega)) fun n hn hc k hk => ?_
   have hat : atL (scv l) (p.length : Int) = some [.str w] := hat
   have hlt : (p.length : Int) < ((scv l).length : Int) := hlt
   rw [QfX]
   simp only [decT hlt, cond_true, Qq0, Qfu, hat, List.length_cons, List.length_nil, Nat.zero_add, beq_self_eq_true, QrM, get0, Qsf, hc, Qbl, hw]
   unfold QdH
   rw [List.all_cons]
   cases w with
   | nil => rfl
   | cons x xs =>
    simp only [show (x :: xs == []) = false from rfl, cond_false, List.isEmpty_cons, Bool.not_false, Bool.true_and]
    cases (x :: xs).all isUp
    ·rfl
    ·simpa [QdH] using hn k hk
 ·simp only [decT (show (s.length : Int) > 30 by omega), cond_true, h, decide_false, Bool.false_and]
  first | exact .done | exact .of trivial
end Go.Proofs
