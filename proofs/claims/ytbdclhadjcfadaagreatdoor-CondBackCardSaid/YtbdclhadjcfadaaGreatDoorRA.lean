/- What the functions of package text and of its reference answer: quoted texts. Conditions: as each says. -/
import Derived.Test.YtbdclhadjcfadaaGreatDoorG1
import Derived.Test.YtbdclhadjcfadaaGreatDoorRk
import Derived.Laws.RangeAny
import Derived.Laws.RangeString
import Derived.Lib.SplitLaws
set_option linter.unusedSimpArgs false
namespace Go.Proofs
open Go.Am
variable (lb : Nat)
end Go.Proofs
set_option linter.unusedSimpArgs false
namespace Go.Proofs
open Go.Am
variable (lb : Nat)
def isUp (c : UInt8) : Bool := decide (65 ≤ c.toNat) && decide (c.toNat ≤ 90)
theorem Qr8 {a : Int} {x y : Int} {p : Bool} (hp : p = (decide (x ≤ a) && decide (a ≤ y))) : (bif decide (a ≥ x) then some (CV.bool (decide (a ≤ y))) else some (CV.bool false)) = some (CV.bool p) := by
 subst hp
 by_cases h : x ≤ a
 ·simp [h]
 ·simp [h]
theorem QhU (c : UInt8) : Ret lb QbE [.int .u8 (c.toNat : Int)] (.bool (isUp c)) :=
 .top rfl (.all fun n => by rw [Qnc, Qr8 (p := isUp c) (by revert c; exact Qug (by decide +kernel))])
theorem Qji (c : UInt8) : Ret lb QbN [.int .u8 (c.toNat : Int)] (.bool (isDg c)) :=
 .top rfl (.all fun n => by rw [QpS, Qr8 (p := isDg c) (by revert c; exact Qug (by decide +kernel))])
theorem Qnd (c : UInt8) : Ret lb Qcj [.int .u8 (c.toNat : Int)] (.bool (isUp c || isDg c)) := by
 refine .top rfl (.eq (fun n => by rw [Qoe]) ?_)
 refine .call (QhU lb c) ?_
 simp only [QbH, QdY]
 cases isUp c
 ·simp only [cond_false, Bool.false_or]
  refine .call (Qji lb c) .done
 ·exact .done
theorem QfL (s : Bs) (hs : s.length ≤ 281474976710656) : Ret lb Qaq [.str s, .fn QbN] (.bool (s.all fun c => isDg c)) := by
 refine .top rfl (.eq (fun n => by rw [QhR]) ?_)
 refine Evt.diag (m := s.length) (Qp0 hs (P := fun p t n k => text_every_text_digit_L1 lb n k s (p.length : Int) = some (.bool (t.all fun c => isDg c))) ?_ ?_ s [] rfl)
 ·refine .all fun n k => ?_
  rw [QdA, decF (by omega), cond_false, QgJ]
  rfl
 ·intro p c t hp hlt hat hw hev
  refine hev.imp2 (Qji lb c) fun n hn hc k hk => ?_
  rw [QdA]
  simp only [hlt, decide_true, cond_true, hat, QbH, hc, QdY, hw, List.all_cons]
  cases (isDg c)
  ·rfl
  ·simpa using hn k hk
theorem QiK (s : Bs) (hs : s.length ≤ 281474976710656) : Ret lb Qaq [.str s, .fn QbE] (.bool (s.all fun c => isUp c)) := by
 refine .top rfl (.eq (fun n => by rw [Qg4]) ?_)
 refine Evt.diag (m := s.length) (Qp0 hs (P := fun p t n k => QbP lb n k s (p.length : Int) = some (.bool (t.all fun c => isUp c))) ?_ ?_ s [] rfl)
 ·refine .all fun n k => ?_
  rw [Qdp, decF (by omega), cond_false, QfY]
  rfl
 ·intro p c t hp hlt hat hw hev
  refine hev.imp2 (QhU lb c) fun n hn hc k hk => ?_
  rw [Qdp]
  simp only [hlt, decide_true, cond_true, hat, QbH, hc, QdY, hw, List.all_cons]
  cases (isUp c)
  ·rfl
  ·simpa using hn k hk
theorem Qi3 (s : Bs) (hs : s.length ≤ 281474976710656) : Ret lb Qaq [.str s, .fn Qcj] (.bool (s.all fun c => isUp c || isDg c)) := by
 refine .top rfl (.eq (fun n => by rw [Qhh]) ?_)
 refine Evt.diag (m := s.length) (Qp0 hs (P := fun p t n k => Qb0 lb n k s (p.length : Int) = some (.bool (t.all fun c => isUp c || isDg c))) ?_ ?_ s [] rfl)
 ·refine .all fun n k => ?_
  rw [Qdy, decF (by omega), cond_false, Qf5]
  rfl
 ·intro p c t hp hlt hat hw hev
  refine hev.imp2 (Qnd lb c) fun n hn hc k hk => ?_
  rw [Qdy]
  simp only [hlt, decide_true, cond_true, hat, QbH, hc, QdY, hw, List.all_cons]
  cases (isUp c || isDg c)
  ·rfl
  ·simpa using hn k hk
def Qdc (s : Bs) : Bool := decide (s.length = 3) && s.all isUp
theorem QmU (s : Bs) (hs : s.length ≤ 281474976710656) : Ret lb QaS [.str s] (.bool (Qdc s)) := by
 refine .top rfl (.eq (fun n => by rw [Qnx]) ?_)
 unfold Qdc
 by_cases h : s.length = 3
 ·simp only [beqT (show (s.length : Int) = 3 by omega), cond_true, h, decide_true, Bool.true_and]
  exact .call (QiK lb s hs) .done
 ·simp only [beqF (show (s.length : Int) ≠ 3 by omega), cond_false, h, decide_false, Bool.false_and]
  exact .of trivial
def isCd (c : UInt8) : Bool := isUp c || isDg c
def Qhk (s : Bs) (a b : Int) : Bool := decide ((s.length : Int) ≥ a) && (decide ((s.length : Int) ≤ b) && s.all isCd)
theorem Qkd (s : Bs) (a b : Int) (hs : s.length ≤ 281474976710656) : Ret lb QgD [.str s, .int .i64 a, .int .i64 b] (.bool (Qhk s a b)) := by
 refine .top rfl (.eq (fun n => by rw [QqB]) ?_)
 unfold Qhk
 cases decide ((s.length : Int) ≥ a)
 ·exact .done
 cases decide ((s.length : Int) ≤ b)
 ·exact .done
 exact .call (Qi3 lb s hs) .done
def Qc9 (s : Bs) : Bool := Qhk s 2 2 && !s.all isDg
theorem QmP (s : Bs) (hs : s.length ≤ 281474976710656) : Ret lb QaT [.str s] (.bool (Qc9 s)) := by
 refine .top rfl (.eq (fun n => by rw [QnR]) ?_)
 refine .call (Qkd lb s 2 2 hs) ?_
 simp only [QbH, QdY]
 unfold Qc9
 cases Qhk s 2 2
 ·exact .done
 ·simp only [cond_true, Bool.true_and]
  exact .call (QfL lb s hs) .done
end Go.Proofs
set_option linter.unusedSimpArgs false
namespace Go.Proofs
open Go.Am
variable (lb : Nat)
end Go.Proofs
set_option linter.unusedSimpArgs false
namespace Go.Proofs
open Go.Am
variable (lb : Nat)
end Go.Proofs
set_option linter.unusedSimpArgs false
namespace Go.Proofs
open Go.Am
variable (lb : Nat)
theorem QrJ (s : Bs) : Lib.trimPrefix s [45] = QaQ s := by
 cases s with
 | nil => rfl
 | cons c r =>
  unfold Lib.trimPrefix Lib.hasPrefix QaQ
  by_cases h : c = 45
  ·subst h; simp
  ·have : ¬ (45 : UInt8) = c := fun q => h q.symm
   simp [h, this]
def Qj2 (p : Int × Int) : CV := .tup [.int .i64 p.1, .int .i64 p.2]
def numR (s : Bs) : CV := Qj2 (numB s)
def numV (neg : Bool) (v : Nat) : Int × Int := bif neg then (if v ≤ 9223372036854775808 then (-(v : Int), 0) else (0, 4)) else (if v < 9223372036854775808 then ((v : Int), 0) else (0, 4))
theorem Qv8 {v : Nat} (h : v ≤ 9223372036854775808) : numV true v = (-(v : Int), 0) := by unfold numV; rw [cond_true, if_pos h]
theorem Qwc {v : Nat} (h : ¬ v ≤ 9223372036854775808) : numV true v = (0, 4) := by unfold numV; rw [cond_true, if_neg h]
theorem Qwv {v : Nat} (h : v < 9223372036854775808) : numV false v = ((v : Int), 0) := by unfold numV; rw [cond_false, if_pos h]
theorem QvW {v : Nat} (h : ¬ v < 9223372036854775808) : numV false v = (0, 4) := by unfold numV; rw [cond_false, if_neg h]
theorem QmT {s : Bs} (h : QaQ s = [] ∨ (QaQ s).all isDg = false ∨ ((QaQ s).head? = some 48 ∧ s ≠ [48])) : numB s = (0, 3) := by unfold numB; rw [if_pos h]
theorem Qpc {s : Bs} (h1 : QaQ s ≠ []) (h2 : (QaQ s).all isDg = true) (h3 : ¬ ((QaQ s).head? = some 48 ∧ s ≠ [48])) : numB s = numV (signed s) (valF 0 (QaQ s)) := by
 unfold numB numV
 rw [if_neg (by
  rintro (q | q | q)
  ·exact h1 q
  ·rw [h2] at q; cases q
  ·exact h3 q)]
 cases signed s <;> rfl
theorem Qfd (a b : Int) : some (CV.tup [.int .i64 a, .int .i64 b]) = some (Qj2 (a, b)) := rfl
theorem QuH (s : Bs) (h1 : QaQ s ≠ []) (h2 : (QaQ s).all isDg = true) : Lib.atoiAll s =
  (if signed s then (if valF 0 (QaQ s) ≤ 9223372036854775808 then .ok (-(valF 0 (QaQ s) : Int)) else .range) else (if valF 0 (QaQ s) < 9223372036854775808 then .ok (valF 0 (QaQ s) : Int) else .range)) := by
 match s, h1, h2 with
 | [], h1, _ => exact (h1 rfl).elim
 | c :: r, h1, h2 =>
  have key : (if c.toNat = 43 ∨ c.toNat = 45 then r else c :: r) = QaQ (c :: r) := by
   by_cases h : c = 45
   ·subst h; rfl
   ·have h45 : c.toNat ≠ 45 := fun q => h (QhN q)
    have e : QaQ (c :: r) = c :: r := by simp [QaQ, h]
    rw [e] at h2 ⊢
    simp only [List.all_cons, Bool.and_eq_true, isDg, decide_eq_true_eq] at h2
    rw [if_neg (by omega)]
  unfold Lib.atoiAll
  simp only [key]
  unfold Lib.parseMag
  rw [if_neg h1, QoF _ _ h2 (by decide)]
  have hs : signed (c :: r) = decide (c.toNat = 45) := by
   unfold signed
   by_cases h : c = 45
   ·subst h; rfl
   ·have h45 : c.toNat ≠ 45 := fun q => h (QhN q)
    simp [h, h45]
  rw [hs]
  generalize valF 0 (QaQ (c :: r)) = v
  by_cases hv : v < 18446744073709551616
  ·rw [if_pos hv]
   by_cases hn : c.toNat = 45
   ·simp only [hn, not_true_eq_false, false_and, if_false, true_and, decide_true, if_true]
    by_cases h5 : 9223372036854775808 < v
    ·rw [if_pos h5, if_neg (by omega)]
    ·rw [if_neg h5, if_pos (by omega)]
   ·simp only [hn, not_false_eq_true, true_and, false_and, if_false, decide_false, Bool.false_eq_true]
    by_cases h5 : 9223372036854775808 ≤ v
    ·rw [if_pos h5, if_neg (by omega)]
    ·rw [if_neg h5, if_pos (by omega)]
  ·rw [if_neg hv]
   simp only
   split
   ·rw [if_neg (by omega)]
   ·rw [if_neg (by omega)]
theorem Qnm (s : Bs) (hs : s.length ≤ 1000000000) : Ret (lb + 1) QcO [.str s] (numR s) := by
 refine .top rfl (.eq (fun n => by rw [Qoi]) ?_)
 have ht : Ret (lb + 1) QcW [.str s, .str [45]] (.str (QaQ s)) := .lib rfl (by simp [QeA, QrJ])
 have hul : (QaQ s).length ≤ s.length := by
  cases s with
  | nil => simp [QaQ]
  | cons c r => simp only [QaQ]; split <;> simp
 refine .call ht ?_
 simp only [QbH, Qgu]
 unfold numR
 by_cases h1 : QaQ s = []
 ·rw [QmT (.inl h1)]
  simp only [h1, show (([] : Bs) == []) = true from rfl, cond_true]
  exact .of (Qfd _ _)
 simp only [show (QaQ s == []) = false by simpa using h1, cond_false]
 refine .call (QfL (lb + 1) (QaQ s) (by omega)) ?_
 simp only [QbH, QdY]
 cases h2 : (QaQ s).all isDg with
 | false =>
  rw [QmT (.inr (.inl h2))]
  simp only [Bool.not_false, cond_true]
  exact .of (Qfd _ _)
 | true =>
  simp only [Bool.not_true, cond_false]
  obtain ⟨x, xs, hx⟩ := List.exists_cons_of_ne_nil h1
  have hat : atS (QaQ s) 0 = some x := by rw [hx]; rfl
  have hatoi : Ret (lb + 1) Qc1 [.str s] (match Lib.atoiAll s with
   | .ok v => .tup [.int .i64 v, .nilif]
   | .range => .tup [.int .i64 (Lib.atoiSat s), .err]
   | _ => .tup [.int .i64 0, .err]) := by
   refine .lib rfl ?_
   unfold QjE
   simp only
   rw [if_pos (by omega)]
   cases Lib.atoiAll s <;> rfl
  have rest : Evt fun n => (optO (C (lb + 1) n Qc1 [.str s]) fun we => optO (CV.asT we) fun y4 => optO (y4[0]?) fun y6 => optO (CV.asT we) fun wD => optO (wD[1]?) fun jy => optO (CV.asE jy) fun vZ =>
    bif (!vZ) then (some (.tup [.int .i64 0, .int .i64 4])) else (some (.tup [y6, .int .i64 0]))) = some (Qj2 (numV (signed s) (valF 0 (QaQ s)))) := by
   refine .call hatoi ?_
   rw [QuH s h1 h2]
   generalize valF 0 (QaQ s) = v
   cases hs : signed s with
   | true =>
    rw [if_pos rfl]
    by_cases hv : v ≤ 9223372036854775808
    ·rw [if_pos hv, Qv8 hv]
     simp only [Qew, get0, get1, Qvy, QbH, Bool.not_true, cond_false]
     exact .of (Qfd _ _)
    ·rw [if_neg hv, Qwc hv]
     simp only [Qew, get0, get1, QvA, QbH, Bool.not_false, cond_true]
     exact .of (Qfd _ _)
   | false =>
    rw [if_neg (by decide)]
    by_cases hv : v < 9223372036854775808
    ·rw [if_pos hv, Qwv hv]
     simp only [Qew, get0, get1, Qvy, QbH, Bool.not_true, cond_false]
     exact .of (Qfd _ _)
    ·rw [if_neg hv, QvW hv]
     simp only [Qew, get0, get1, QvA, QbH, Bool.not_false, cond_true]
     exact .of (Qfd _ _)
  simp only [hat, QbH]
  by_cases h48 : x = 48
  ·simp only [beqT (show (x.toNat : Int) = 48 by rw [h48]; rfl), cond_true]
   by_cases h3 : s = [48]
   ·have e : (!(s == [48])) = false := by rw [h3]; rfl
    simp only [e, cond_false]
    rw [Qpc h1 h2 (by rintro ⟨_, q⟩; exact q h3)]
    exact rest
   ·have e : (!(s == [48])) = true := by simpa using h3
    simp only [e, cond_true]
    rw [QmT (.inr (.inr ⟨by rw [hx, h48]; rfl, h3⟩))]
    exact .of (Qfd _ _)
  ·have h48' : x.toNat ≠ 48 := fun q => h48 (QhN q)
   simp only [beqF (show (x.toNat : Int) ≠ 48 by omega), cond_false]
   rw [Qpc h1 h2 (by rw [hx]; simp [h48])]
   exact rest
theorem Qc8 (z : Int) (h0 : -9223372036854775808 ≤ z) (h1 : z ≤ 9223372036854775807) : Ret lb QbG [.int .i64 z] (.str (Lib.itoa z)) := by
 refine .top rfl (.eq (fun n => by rw [QnD]) ?_)
 refine .call (v := .str (Lib.itoa z)) (.lib rfl ?_) .done
 simp only [QjA, if_pos (And.intro h0 h1), Qqy h0 h1]
end Go.Proofs
set_option linter.unusedSimpArgs false
namespace Go.Proofs
open Go.Am
variable (lb : Nat)
end Go.Proofs
set_option linter.unusedSimpArgs false
namespace Go.Proofs
open Go.Am
variable (lb : Nat)
def QaG (c : UInt8) : Bs → List Bs
 | [] => [[]]
 | x :: r => if x = c then [] :: QaG c r else match QaG c r with
  | w :: ws => (x :: w) :: ws
  | [] => [[x]]
theorem Qo4 (c : UInt8) : ∀ s, QaG c s ≠ []
 | [] => by simp [QaG]
 | x :: r => by
  unfold QaG
  split
  ·simp
  ·split <;> simp
theorem Qkq (c : UInt8) (l : Bs) : Lib.index (c :: l) [c] = 0 := by
 rw [Lib.index]
 simp
theorem QpJ {b c : UInt8} (l : Bs) (h : b ≠ c) : Lib.index (b :: l) [c] = if Lib.index l [c] = -1 then -1 else Lib.index l [c] + 1 := by
 rw [Lib.index]
 have : ¬ c = b := fun q => h q.symm
 simp [this]
theorem QrG {c : UInt8} {l : Bs} (h : Lib.count l [c] ≠ 0) : Lib.index l [c] ≠ -1 := by
 intro q
 apply h
 unfold Lib.count
 rw [Lib.countFrom]
 simp [q]
theorem QjL {c : UInt8} {k : Nat} {l : Bs} (h : Lib.index l [c] ≠ -1) : Lib.splitK [c] 0 (k + 1) l = l.take (Lib.index l [c]).toNat :: Lib.splitK [c] 0 k (l.drop ((Lib.index l [c]).toNat + 1)) := by
 rw [Lib.splitK]
 have : (Lib.index l [c] == -1) = false := by simpa using h
 simp [this]
theorem QoA (c : UInt8) : ∀ s : Bs, Lib.split s [c] = QaG c s
 | [] => by simp [Lib.split, Lib.count, Lib.countFrom, Lib.index, QaG, Lib.splitK]
 | x :: l => by
  have ih := QoA c l
  unfold Lib.split at ih ⊢
  by_cases h : x = c
  ·subst h
   rw [Lib.count_cons_eq, Nat.add_comm 1, QjL (by rw [Qkq]; decide), Qkq]
   simp only [QaG, if_true]
   simpa using ih
  ·rw [Lib.count_cons_ne x c l h]
   cases hk : Lib.count l [c] with
   | zero =>
    rw [hk] at ih
    simp only [Lib.splitK] at ih ⊢
    simp [QaG, h, ← ih]
   | succ k =>
    have hi := QrG (c := c) (l := l) (by omega)
    have hge := Lib.index_ge l [c]
    rw [hk, QjL hi] at ih
    have hx : Lib.index (x :: l) [c] = Lib.index l [c] + 1 := by rw [QpJ l h, if_neg hi]
    rw [QjL (by rw [hx]; omega), hx]
    obtain ⟨i, hi'⟩ : ∃ i : Nat, Lib.index l [c] = i := ⟨(Lib.index l [c]).toNat, by omega⟩
    rw [hi'] at ih ⊢
    rw [show ((i : Int) + 1).toNat = i + 1 by omega, List.take_succ_cons, List.drop_succ_cons]
    rw [Int.toNat_natCast] at ih
    simp [QaG, h, ← ih]
theorem Qhn (c : UInt8) : ∀ s, (QaG c s).length ≤ s.length + 1 ∧ ∀ w ∈ QaG c s, w.length ≤ s.length
 | [] => by simp [QaG]
 | x :: r => by
  obtain ⟨h1, h2⟩ := Qhn c r
  unfold QaG
  split
  ·refine ⟨by simp; omega, fun w hw => ?_⟩
   rcases List.mem_cons.1 hw with rfl | hw
   ·simp
   ·have := h2 w hw; simp; omega
  ·split
   ·rename_i w ws hs
    rw [hs] at h1 h2
    refine ⟨by simp at h1 ⊢; omega, fun v hv => ?_⟩
    rcases List.mem_cons.1 hv with rfl | hv
    ·have := h2 w (List.mem_cons_self ..); simp; omega
    ·have := h2 v (List.mem_cons_of_mem _ hv); simp; omega
   ·refine ⟨by simp, fun v hv => ?_⟩
    simp only [List.mem_cons, List.not_mem_nil, or_false] at hv
    subst hv; simp
theorem QoH (s : Bs) (c : UInt8) (hs : s.length ≤ 1000000000) : Ret lb Qcb [.str s, .str [c]] (.list false (scv (QaG c s))) := by
 refine .lib rfl ?_
 unfold Qiw
 simp only
 rw [if_pos ⟨by omega, by simp⟩, QoA]
 rfl
end Go.Proofs
set_option linter.unusedSimpArgs false
namespace Go.Proofs
open Go.Am
variable (lb : Nat)
end Go.Proofs
