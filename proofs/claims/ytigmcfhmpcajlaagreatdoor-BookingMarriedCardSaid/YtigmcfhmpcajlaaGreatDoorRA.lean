/- What the functions of package text and of its reference answer: quoted texts. Conditions: as each says. -/
import Derived.Test.YtigmcfhmpcajlaaGreatDoorG1
import Derived.Test.YtigmcfhmpcajlaaGreatDoorRk
import Derived.Laws.RangeAny
import Derived.Laws.RangeString
import Derived.Lib.SplitLaws
set_option linter.unusedSimpArgs false
namespace Go.Proofs
open Go.Am
variable (lb : Nat)
end Go.Proofs
set_option linter.unusedSimpArgs false
namespace Go.Proofs
open Go.Am
variable (lb : Nat)
def isUp (c : UInt8) : Bool := decide (65 ≤ c.toNat) && decide (c.toNat ≤ 90)
theorem QmD {a : Int} {x y : Int} {p : Bool} (hp : p = (decide (x ≤ a) && decide (a ≤ y))) : (bif decide (a ≥ x) then some (CV.bool (decide (a ≤ y))) else some (CV.bool false)) = some (CV.bool p) := by
 subst hp
 by_cases h : x ≤ a
 ·simp [h]
 ·simp [h]
theorem QfS (c : UInt8) : Ret lb Qbv [.int .u8 (c.toNat : Int)] (.bool (isUp c)) :=
 .top rfl (.all fun n => by rw [Qpq, QmD (p := isUp c) (by revert c; exact QiJ (by decide +kernel))])
theorem QdB (c : UInt8) : Ret lb QdS [.int .u8 (c.toNat : Int)] (.bool (isUp c)) :=
 .top rfl (.all fun n => by rw [Qrz, QmD (p := isUp c) (by revert c; exact QiJ (by decide +kernel))])
theorem QjM (c : UInt8) : Ret lb Qcm [.int .u8 (c.toNat : Int)] (.bool (isDg c)) :=
 .top rfl (.all fun n => by rw [QqX, QmD (p := isDg c) (by revert c; exact QiJ (by decide +kernel))])
theorem Qrb (c : UInt8) : Ret lb Qjz [.int .u8 (c.toNat : Int)] (.bool (isDg c)) :=
 .top rfl (.all fun n => by rw [QrV, QmD (p := isDg c) (by revert c; exact QiJ (by decide +kernel))])
theorem Qpp (c : UInt8) : Ret lb Qcx [.int .u8 (c.toNat : Int)] (.bool (isUp c || isDg c)) := by
 refine .top rfl (.eq (fun n => by rw [Qqd]) ?_)
 refine .call (QfS lb c) ?_
 simp only [Qa0, QaM]
 cases isUp c
 ·simp only [cond_false, Bool.false_or]
  refine .call (QjM lb c) .done
 ·exact .done
theorem QnC (c : UInt8) : Ret lb Qcf [.int .u8 (c.toNat : Int)] (.bool (isPl c)) := by
 refine .top rfl (.all fun n => ?_)
 rw [QoO]
 revert c
 refine QiJ ?_
 have : ∀ k, k < 256 → (bif decide (((UInt8.ofNat k).toNat : Int) > 32) then bif decide (((UInt8.ofNat k).toNat : Int) ≤ 126) then ((((UInt8.ofNat k).toNat : Int) != 34)) else false else false) = isPl (UInt8.ofNat k) := by decide +kernel
 intro k hk
 rw [← this k hk]
 cases decide (((UInt8.ofNat k).toNat : Int) > 32)
 ·rfl
 ·cases decide (((UInt8.ofNat k).toNat : Int) ≤ 126) <;> rfl
theorem Qkq (s : Bs) (hs : s.length ≤ 281474976710656) : Ret lb Qao [.str s, .fn Qcm] (.bool (s.all fun c => isDg c)) := by
 refine .top rfl (.eq (fun n => by rw [Qiz]) ?_)
 refine Evt.diag (m := s.length) (QkK hs (P := fun p t n k => Qcp lb n k s (p.length : Int) = some (.bool (t.all fun c => isDg c))) ?_ ?_ s [] rfl)
 ·refine .all fun n k => ?_
  rw [QdT, decF (by omega), cond_false, QhQ]
  rfl
 ·intro p c t hp hlt hat hw hev
  refine hev.imp2 (QjM lb c) fun n hn hc k hk => ?_
  rw [QdT]
  simp only [hlt, decide_true, cond_true, hat, Qa0, hc, QaM, hw, List.all_cons]
  cases (isDg c)
  ·rfl
  ·simpa using hn k hk
theorem QfA (s : Bs) (hs : s.length ≤ 281474976710656) : Ret lb Qao [.str s, .fn Qbv] (.bool (s.all fun c => isUp c)) := by
 refine .top rfl (.eq (fun n => by rw [QhW]) ?_)
 refine Evt.diag (m := s.length) (QkK hs (P := fun p t n k => Qb7 lb n k s (p.length : Int) = some (.bool (t.all fun c => isUp c))) ?_ ?_ s [] rfl)
 ·refine .all fun n k => ?_
  rw [Qdw, decF (by omega), cond_false, QgG]
  rfl
 ·intro p c t hp hlt hat hw hev
  refine hev.imp2 (QfS lb c) fun n hn hc k hk => ?_
  rw [Qdw]
  simp only [hlt, decide_true, cond_true, hat, Qa0, hc, QaM, hw, List.all_cons]
  cases (isUp c)
  ·rfl
  ·simpa using hn k hk
theorem Qj8 (s : Bs) (hs : s.length ≤ 281474976710656) : Ret lb Qao [.str s, .fn Qcx] (.bool (s.all fun c => isUp c || isDg c)) := by
 refine .top rfl (.eq (fun n => by rw [Qij]) ?_)
 refine Evt.diag (m := s.length) (QkK hs (P := fun p t n k => Qch lb n k s (p.length : Int) = some (.bool (t.all fun c => isUp c || isDg c))) ?_ ?_ s [] rfl)
 ·refine .all fun n k => ?_
  rw [QdI, decF (by omega), cond_false, QgZ]
  rfl
 ·intro p c t hp hlt hat hw hev
  refine hev.imp2 (Qpp lb c) fun n hn hc k hk => ?_
  rw [QdI]
  simp only [hlt, decide_true, cond_true, hat, Qa0, hc, QaM, hw, List.all_cons]
  cases (isUp c || isDg c)
  ·rfl
  ·simpa using hn k hk
theorem QjD (s : Bs) (hs : s.length ≤ 281474976710656) : Ret lb Qao [.str s, .fn Qcf] (.bool (s.all fun c => isPl c)) := by
 refine .top rfl (.eq (fun n => by rw [QhS]) ?_)
 refine Evt.diag (m := s.length) (QkK hs (P := fun p t n k => Qb3 lb n k s (p.length : Int) = some (.bool (t.all fun c => isPl c))) ?_ ?_ s [] rfl)
 ·refine .all fun n k => ?_
  rw [Qdx, decF (by omega), cond_false, QgH]
  rfl
 ·intro p c t hp hlt hat hw hev
  refine hev.imp2 (QnC lb c) fun n hn hc k hk => ?_
  rw [Qdx]
  simp only [hlt, decide_true, cond_true, hat, Qa0, hc, QaM, hw, List.all_cons]
  cases (isPl c)
  ·rfl
  ·simpa using hn k hk
theorem Qdl (s : Bs) (hs : s.length ≤ 281474976710656) : Ret lb QgC [.str s] (.bool (QiT s)) := by
 refine .top rfl (.eq (fun n => by rw [QqW]) ?_)
 unfold QiT
 cases s with
 | nil => exact .done
 | cons c t =>
  simp only [show (c :: t == []) = false from rfl, Bool.not_false, cond_true, List.isEmpty_cons, Bool.true_and]
  exact .call (QjD lb (c :: t) hs) .done
theorem Qje (s : Bs) (m : Int) (hs : s.length ≤ 281474976710656) : Ret lb Qbf [.str s, .int .i64 m] (.bool (s.all isUp && ((s.length : Int) == m))) := by
 refine .top rfl (.eq (fun n => by rw [Qp1]) ?_)
 refine Evt.diag (m := s.length) (QkK hs (P := fun p t n k => Qe6 lb n k s m (p.length : Int) = some (.bool (t.all isUp && ((s.length : Int) == m)))) ?_ ?_ s [] rfl)
 ·refine .all fun n k => ?_
  rw [QgL, decF (by omega), cond_false, QmO]
  rfl
 ·intro p c t hp hlt hat hw hev
  refine hev.imp2 (QdB lb c) fun n hn hc k hk => ?_
  rw [QgL]
  simp only [hlt, decide_true, cond_true, hat, Qa0, hc, QaM, hw, List.all_cons]
  cases isUp c
  ·rfl
  ·simpa using hn k hk
def Qc0 (s : Bs) : Bool := decide (s.length = 3) && s.all isUp
def Qc2 (s : Bs) : Bool := decide (s.length = 1) && s.all isUp
theorem Qi2 (s : Bs) (hs : s.length ≤ 281474976710656) : Ret lb Qfb [.str s] (.bool (Qc0 s)) := by
 refine .top rfl (.eq (fun n => by rw [Qpi]) ?_)
 unfold Qc0
 by_cases h : s.length = 3
 ·simp only [beqT (show (s.length : Int) = 3 by omega), cond_true, h, decide_true, Bool.true_and]
  exact .call (QfA lb s hs) .done
 ·simp only [beqF (show (s.length : Int) ≠ 3 by omega), cond_false, h, decide_false, Bool.false_and]
  exact .of trivial
theorem Qp4 (s : Bs) : Ret lb QiK [.str s] (.bool (Qc2 s)) := by
 refine .top rfl (.eq (fun n => by rw [Qq9]) ?_)
 unfold Qc2
 match s with
 | [c] =>
  simp only [beqT (show ((([c] : Bs).length : Int)) = 1 from rfl), cond_true, show atS [c] 0 = some c from rfl, Qa0]
  refine .call (QfS lb c) ?_
  exact .of (by simp)
 | [] => exact .done
 | c :: d :: t =>
  simp only [beqF (show (((c :: d :: t : Bs).length : Int)) ≠ 1 by simp only [List.length_cons]; omega), cond_false]
  exact .of (by simp)
theorem Qjr (s : Bs) (hs : s.length ≤ 281474976710656) : Ret lb QfE [.str s] (.bool (Qc0 s)) := by
 refine .top rfl (.eq (fun n => by rw [QpP]) ?_)
 refine .call (Qje lb s 3 hs) ?_
 refine .of ?_
 unfold Qc0
 rw [Bool.and_comm, show decide (s.length = 3) = ((s.length : Int) == 3) by
  by_cases h : s.length = 3
  ·rw [beqT (by omega), decT h]
  ·rw [beqF (by omega), decF h]]
theorem Qq3 (s : Bs) (hs : s.length ≤ 281474976710656) : Ret lb QjF [.str s] (.bool (Qc2 s)) := by
 refine .top rfl (.eq (fun n => by rw [Qrj]) ?_)
 refine .call (Qje lb s 1 hs) ?_
 refine .of ?_
 unfold Qc2
 rw [Bool.and_comm, show decide (s.length = 1) = ((s.length : Int) == 1) by
  by_cases h : s.length = 1
  ·rw [beqT (by omega), decT h]
  ·rw [beqF (by omega), decF h]]
def isCd (c : UInt8) : Bool := isUp c || isDg c
def QbY (s : Bs) (a b : Int) : Bool := decide ((s.length : Int) ≥ a) && (decide ((s.length : Int) ≤ b) && s.all isCd)
theorem QfH (s : Bs) (a b : Int) (hs : s.length ≤ 281474976710656) : Ret lb Qev [.str s, .int .i64 a, .int .i64 b] (.bool (QbY s a b)) := by
 refine .top rfl (.eq (fun n => by rw [Qry]) ?_)
 unfold QbY
 cases decide ((s.length : Int) ≥ a)
 ·exact .done
 cases decide ((s.length : Int) ≤ b)
 ·exact .done
 exact .call (Qj8 lb s hs) .done
theorem Qgg (s : Bs) (a b : Int) (hs : s.length ≤ 281474976710656) : Ret lb QbC [.str s, .int .i64 a, .int .i64 b] (.bool (QbY s a b)) := by
 refine .top rfl (.eq (fun n => by rw [QsY]) ?_)
 unfold QbY
 refine Evt.diag (m := s.length) (QkK hs (P := fun p t n k => r01_Code_L1 lb n k s a b (p.length : Int) = some (.bool (decide ((s.length : Int) ≥ a) && (decide ((s.length : Int) ≤ b) && t.all isCd)))) ?_ ?_ s [] rfl)
 ·refine .all fun n k => ?_
  rw [QiI, decF (by omega), cond_false, Qpx]
  cases decide ((s.length : Int) ≥ a) <;> simp
 ·intro p c t hp hlt hat hw hev
  refine (hev.and (Qrb lb c)).imp2 (QdB lb c) fun n ⟨hn, hd⟩ hc k hk => ?_
  have hn := hn k hk
  rw [QiI]
  simp only [hlt, decide_true, cond_true, hat, Qa0, hc, hd, QaM, hw, List.all_cons, isCd] at hn ⊢
  cases isUp c
  ·cases isDg c
   ·simp
   ·simpa using hn
  ·simpa using hn
def QfO (s : Bs) : Bool := QbY s 2 2 && !s.all isDg
theorem QnJ (s : Bs) (hs : s.length ≤ 281474976710656) : Ret lb Qg9 [.str s] (.bool (QfO s)) := by
 refine .top rfl (.eq (fun n => by rw [Qox]) ?_)
 refine .call (QfH lb s 2 2 hs) ?_
 simp only [Qa0, QaM]
 unfold QfO
 cases QbY s 2 2
 ·exact .done
 ·simp only [cond_true, Bool.true_and]
  exact .call (Qkq lb s hs) .done
theorem QvZ (c : UInt8) (h : isCd c = true) : isDg c = !isUp c := by
 revert h; revert c; refine QiJ ?_; decide +kernel
theorem Qpk (s : Bs) (hs : s.length ≤ 281474976710656) : Ret lb QhY [.str s] (.bool (QfO s)) := by
 refine .top rfl (.eq (fun n => by rw [QpF]) ?_)
 refine .call (Qgg lb s 2 2 hs) ?_
 simp only [Qa0, QaM]
 unfold QfO
 cases h : QbY s 2 2
 ·exact .done
 ·simp only [cond_true, Bool.true_and]
  unfold QbY at h
  simp only [Bool.and_eq_true, decide_eq_true_eq] at h
  obtain ⟨h1, h2, h3⟩ := h
  match s, h1, h2, h3 with
  | [x, y], _, _, h3 =>
   simp only [List.all_cons, List.all_nil, Bool.and_true, Bool.and_eq_true] at h3
   simp only [show atS [x, y] 0 = some x from rfl, show atS [x, y] 1 = some y from rfl, Qa0, List.all_cons, List.all_nil, Bool.and_true, QvZ x h3.1, QvZ y h3.2]
   refine .call (QdB lb x) ?_
   simp only [Qa0, QaM]
   cases isUp x
   ·simp only [cond_false]
    refine .call (QdB lb y) ?_
    exact .of (by simp)
   ·exact .done
  | [], h1, h2, _ => simp at h1
  | [x], h1, h2, _ => simp at h1
  | x :: y :: z :: r, h1, h2, _ => simp at h2; omega
end Go.Proofs
set_option linter.unusedSimpArgs false
namespace Go.Proofs
open Go.Am
variable (lb : Nat)
def hxV (c : UInt8) : Int := match hexV c with
 | some n => n
 | none => -1
theorem Qup (c : UInt8) : Lib.indexByte [48, 49, 50, 51, 52, 53, 54, 55, 56, 57, 97, 98, 99, 100, 101, 102] c = hxV c := by
 revert c; refine QiJ ?_; decide +kernel
theorem Qsg (c : UInt8) : Ret lb QcA [.str [48, 49, 50, 51, 52, 53, 54, 55, 56, 57, 97, 98, 99, 100, 101, 102], .int .u8 (c.toNat : Int)] (.int .i64 (hxV c)) := by
 refine .lib rfl ?_
 simp only [QfF, Int.toNat_natCast]
 rw [show c.toNat.toUInt8 = c from by simp, Qup]
theorem Qqq (c : UInt8) : (hexV c = none ∧ hxV c = -1) ∨ ∃ n, hexV c = some n ∧ n < 16 ∧ hxV c = n := by
 cases h : hexV c with
 | none => exact .inl ⟨rfl, by simp [hxV, h]⟩
 | some n => exact .inr ⟨n, rfl, (QhK h).2, by simp [hxV, h]⟩
theorem QxM : ∀ a, a < 16 → ∀ b, b < 16 → IntKind.wrap .u8 (IntKind.wrap .i64 ((BitVec.ofInt 64 (IntKind.wrap .i64 ((a : Nat) * 2 ^ 4)) ||| BitVec.ofInt 64 (b : Nat)).toNat)) = ((16 * a + b : Nat) : Int) := by decide +kernel
def escR (t : Bs) : Nat × Nat := match t with
 | [] => (0, 0)
 | d :: r => if d.toNat = 34 ∨ d.toNat = 92 then (d.toNat, 1) else if d.toNat = 120 then
   match r with
   | h :: l :: _ => match hexV h, hexV l with
    | some a, some b => if 32 ≤ 16 * a + b ∧ 16 * a + b ≤ 126 then (0, 0) else (16 * a + b, 3)
    | _, _ => (0, 0)
   | _ => (0, 0)
  else (0, 0)
theorem Qvs (t : Bs) : (escR t).2 ≤ t.length ∧ (escR t).2 ≤ 3 ∧ (escR t).1 < 256 := by
 unfold escR
 split
 ·simp
 rename_i d r
 have := d.toNat_lt
 split
 ·exact ⟨by simp, by simp, by simpa using this⟩
 split
 ·split
  ·split
   ·rename_i a b ha hb
    have := (QhK ha).2
    have := (QhK hb).2
    split
    ·simp
    ·exact ⟨by simp only [List.length_cons]; omega, by simp, by simp only; omega⟩
   ·simp
  ·simp
 ·simp
theorem Qwd (r : Bs) : unqI (92 :: r) = if (escR r).2 = 0 then none else (unqI (r.drop (escR r).2)).map (UInt8.ofNat (escR r).1 :: ·) := by
 rw [Qi8, if_neg (by decide), if_pos (by decide)]
 match r with
 | [] => simp [escR]
 | d :: r' =>
  simp only [escR]
  by_cases h1 : d.toNat = 34 ∨ d.toNat = 92
  ·simp [h1]
  ·simp only [h1, if_false]
   by_cases h2 : d.toNat = 120
   ·simp only [h2, if_true]
    match r' with
    | [] => simp
    | [x] => simp
    | x :: y :: r'' =>
     simp only
     cases hx : hexV x with
     | none => simp
     | some a =>
      cases hy : hexV y with
      | none => simp
      | some b =>
       simp only
       by_cases h3 : 32 ≤ 16 * a + b ∧ 16 * a + b ≤ 126
       ·simp [h3]
       ·simp [h3]
   ·simp [h2]
theorem Qjb (t : Bs) (ht : t.length ≤ 1000000000) : Ret lb QhX [.str t] (.tup [.int .u8 ((escR t).1 : Int), .int .i64 ((escR t).2 : Int)]) := by
 refine .top rfl (.eq (fun n => by rw [QpS]) ?_)
 match t, ht with
 | [], _ => exact .done
 | d :: r, ht =>
  simp only [show (d :: r == ([] : Bs)) = false from rfl, cond_false, show atS (d :: r) 0 = some d from rfl, Qa0]
  unfold escR
  by_cases h1 : d.toNat = 34
  ·simp only [beqT (show (d.toNat : Int) = 34 by omega), cond_true]
   simp only [h1, true_or, if_true]
   refine .of ?_; first | rfl | simp
  simp only [beqF (show (d.toNat : Int) ≠ 34 by omega), cond_false]
  by_cases h2 : d.toNat = 92
  ·simp only [beqT (show (d.toNat : Int) = 92 by omega), cond_true]
   simp only [h2, or_true, if_true]
   refine .of ?_; first | rfl | simp
  simp only [beqF (show (d.toNat : Int) ≠ 92 by omega), cond_false, h1, h2, or_self, if_false]
  by_cases h3 : d.toNat = 120
  ·simp only [bneF (show (d.toNat : Int) = 120 by omega), cond_false]
   simp only [h3, if_true]
   match r, ht with
   | [], _ => exact .of rfl
   | [x], _ => exact .of rfl
   | x :: y :: r', _ =>
    simp only [decF (show ¬ ((d :: x :: y :: r' : Bs).length : Int) < 3 by simp only [List.length_cons]; omega), cond_false, show atS (d :: x :: y :: r') 1 = some x from rfl, show atS (d :: x :: y :: r') 2 = some y from rfl, Qa0]
    refine .call (Qsg lb x) ?_
    refine .call (Qsg lb y) ?_
    simp only [Qa0, QaK]
    rcases Qqq x with ⟨hx, ex⟩ | ⟨a, hx, ha, ex⟩
    ·simp only [hx, ex]
     refine .of ?_; first | rfl | simp
    rcases Qqq y with ⟨hy, ey⟩ | ⟨b, hy, hb, ey⟩
    ·simp only [hx, hy, ex, ey, decF (show ¬ (a : Int) < 0 by omega), cond_false]
     refine .of ?_; first | rfl | simp
    simp only [hx, hy, ex, ey, decF (show ¬ (a : Int) < 0 by omega), decF (show ¬ (b : Int) < 0 by omega), cond_false, QxM a ha b hb]
    by_cases h4 : 32 ≤ 16 * a + b
    ·rw [decT (show ((16 * a + b : Nat) : Int) ≥ 32 by omega), cond_true]
     by_cases h5 : 16 * a + b ≤ 126
     ·rw [decT (show ((16 * a + b : Nat) : Int) ≤ 126 by omega), cond_true, if_pos ⟨h4, h5⟩]
      exact .of rfl
     ·rw [decF (show ¬ ((16 * a + b : Nat) : Int) ≤ 126 by omega), cond_false, if_neg (by omega)]
      exact .of rfl
    ·rw [decF (show ¬ ((16 * a + b : Nat) : Int) ≥ 32 by omega), cond_false, if_neg (by omega)]
     exact .of rfl
  ·simp only [bneT (show (d.toNat : Int) ≠ 120 by omega), cond_true, h3, if_false]
   refine .of ?_; first | rfl | simp
def unqR (o : Option Bs) : CV := match o with
 | some b => .tup [.str b, .int .i64 0]
 | none => .tup [.str [], .int .i64 3]
theorem Qn3 (s inner : Bs) (hs : inner.length ≤ 1000000000) (he : (s.take ((IntKind.wrap .i64 ((s.length : Int) - 1)).toNat)).drop 1 = inner) :
  ∀ (N : Nat) (t p b : Bs), t.length ≤ N → p ++ t = inner → b.length ≤ p.length → Evt fun n => ∀ k, t.length < k → QdL lb n k s (bcv b) (p.length : Int) = some (unqR ((unqI t).map (b ++ ·)))
 | N, [], p, b, hN, hp, hb => .all fun n k hk => by
  obtain ⟨k, rfl⟩ : ∃ m, k = m + 1 := ⟨k - 1, by simp at hk; omega⟩
  have : p = inner := by simpa using hp
  rw [Qcr, he, decF (by rw [this]; omega), cond_false, Ql7, Qnl]
  simp [Qa0, unqR, unqI]
 | 0, c :: t, p, b, hN, _, _ => by simp at hN
 | N + 1, c :: t, p, b, hN, hp, hb => by
  have hl : inner.length = p.length + (t.length + 1) := by rw [← hp]; simp
  have hat : atS inner (p.length : Int) = some c := QhI (by rw [← hp]; simp)
  have hlt : (p.length : Int) < (inner.length : Int) := by omega
  have hw : IntKind.wrap .i64 ((p.length : Int) + 1) = ((p ++ [c]).length : Int) := by rw [QaB (by omega) (by omega)]; simp
  have r1 : room ((bcv b).length + 1) 1 = true := Qer (by rw [QwC]; omega)
  by_cases hbad : c.toNat = 34 ∨ c.toNat < 32 ∨ 126 < c.toNat
  ·refine .all fun n k hk => ?_
   obtain ⟨k, rfl⟩ : ∃ m, k = m + 1 := ⟨k - 1, by simp at hk; omega⟩
   rw [Qcr, he]
   simp only [hlt, decide_true, cond_true, hat, Qa0, Qi8, hbad, if_true, Option.map_none, unqR]
   by_cases h1 : c.toNat = 34
   ·rw [beqT (by omega), cond_true]
   rw [beqF (by omega), cond_false]
   by_cases h2 : c.toNat < 32
   ·rw [decT (by omega), cond_true]
   rw [decF (by omega), cond_false, decT (by omega), cond_true]
  ·have hg : ∀ {x y : Option CV}, (bif ((c.toNat : Int) == 34) then x else bif (decide ((c.toNat : Int) < 32)) then x else bif (decide ((c.toNat : Int) > 126)) then x else y) = y := by
    intro x y
    rw [beqF (by omega), cond_false, decF (by omega), cond_false, decF (by omega), cond_false]
   by_cases h92 : c.toNat = 92
   ·have ec : c = 92 := QgD h92
    have hr : (inner.take ((inner.length : Int)).toNat).drop ((p ++ [c]).length : Int).toNat = t := by
     rw [Int.toNat_natCast, Int.toNat_natCast, List.take_length, ← hp, show p ++ c :: t = (p ++ [c]) ++ t by simp, List.drop_left]
    obtain ⟨e1, e2, e3⟩ := Qvs t
    have hu := Qwd t
    by_cases h0 : (escR t).2 = 0
    ·refine (Qjb lb t (by omega)).mono fun n hn k hk => ?_
     obtain ⟨k, rfl⟩ : ∃ m, k = m + 1 := ⟨k - 1, by simp at hk; omega⟩
     rw [Qcr, he]
     simp only [hlt, decide_true, cond_true, hat, Qa0, hg, beqT (show (c.toNat : Int) = 92 by omega), hw, hr, hn, QkX, get0, get1, QaK]
     rw [decT (by simp; omega), QdH, beqT (by omega), cond_true, ec, hu, if_pos h0]
     rfl
    ·have hd : (p ++ [c] ++ t.take (escR t).2) ++ t.drop (escR t).2 = inner := by
      rw [List.append_assoc, List.take_append_drop, ← hp]; simp
     have hlen : (p ++ [c] ++ t.take (escR t).2).length = p.length + 1 + (escR t).2 := by simp; omega
     refine (Qn3 s inner hs he N (t.drop (escR t).2) _ (b ++ [UInt8.ofNat (escR t).1]) (by simp at hN ⊢; omega) hd (by rw [hlen]; simp; omega)).imp2 (Qjb lb t (by omega)) fun n hn hesc k hk => ?_
     obtain ⟨k, rfl⟩ : ∃ m, k = m + 1 := ⟨k - 1, by simp at hk; omega⟩
     have hn := hn k (by simp at hk ⊢; omega)
     rw [hlen] at hn
     rw [Qcr, he]
     simp only [hlt, decide_true, cond_true, hat, Qa0, hg, beqT (show (c.toNat : Int) = 92 by omega), hw, hr, hesc, QkX, get0, get1, QaK, QtY, r1, QdH]
     rw [decT (by simp; omega), QdH, beqF (by omega), cond_false, QaB (x := (p.length : Int) + ((escR t).2 : Int)) (by omega) (by omega), QaB (by omega) (by omega), ec, hu, if_neg h0]
     have e5 : bcv b ++ [[CV.int .u8 ((escR t).1 : Int)]] = bcv (b ++ [UInt8.ofNat (escR t).1]) := by
      simp [bcv, Nat.mod_eq_of_lt e3]
     rw [e5, show (p.length : Int) + ((escR t).2 : Int) + 1 = ((p.length + 1 + (escR t).2 : Nat) : Int) by omega, hn]
     cases unqI (t.drop (escR t).2) <;> simp
   ·have hd : (p ++ [c]) ++ t = inner := by rw [← hp]; simp
    refine (Qn3 s inner hs he N t (p ++ [c]) (b ++ [c]) (by simp at hN; omega) hd (by simp; omega)).mono fun n hn k hk => ?_
    obtain ⟨k, rfl⟩ : ∃ m, k = m + 1 := ⟨k - 1, by simp at hk; omega⟩
    have hn := hn k (by simp at hk; omega)
    rw [Qcr, he]
    simp only [hlt, decide_true, cond_true, hat, Qa0, hg, beqF (show (c.toNat : Int) ≠ 92 by omega), cond_false, r1, QdH, hw]
    rw [show bcv b ++ [[CV.int .u8 (c.toNat : Int)]] = bcv (b ++ [c]) by simp [bcv], hn, Qi8, if_neg hbad, if_neg h92]
    cases unqI t <;> simp
theorem QfT (s : Bs) (hs : s.length ≤ 1000000000) : Ret lb Qbe [.str s] (unqR (unq s)) := by
 refine .top rfl (.eq (fun n => by rw [Qoo]) ?_)
 unfold unq
 by_cases h2 : s.length < 2
 ·rw [if_neg (by omega)]
  simp only [decT (show (s.length : Int) < 2 by omega), cond_true]
  exact .done
 simp only [decF (show ¬ (s.length : Int) < 2 by omega), cond_false]
 have hw : IntKind.wrap .i64 ((s.length : Int) - 1) = ((s.length - 1 : Nat) : Int) := by rw [QaB (by omega) (by omega)]; omega
 obtain ⟨x, hx⟩ : ∃ x, s[0]? = some x := ⟨s[0], List.getElem?_eq_getElem (by omega)⟩
 obtain ⟨y, hy⟩ : ∃ y, s[s.length - 1]? = some y := ⟨s[s.length - 1], List.getElem?_eq_getElem (by omega)⟩
 have hx' : atS s 0 = some x := QhI (i := 0) hx
 have hy' : atS s ((s.length - 1 : Nat) : Int) = some y := QhI hy
 have hh : s.head? = some x := by rw [List.head?_eq_getElem?]; exact hx
 have hg : s.getLast? = some y := by rw [List.getLast?_eq_getElem?]; exact hy
 rw [hh, hg]
 simp only [hx', Qa0]
 by_cases h34 : x = 34
 ·simp only [bneF (show (x.toNat : Int) = 34 by rw [h34]; rfl), cond_false, hw, hy', Qa0]
  by_cases h35 : y = 34
  ·rw [if_pos ⟨by omega, by rw [h34], by rw [h35]⟩]
   simp only [bneF (show (y.toNat : Int) = 34 by rw [h35]; rfl), cond_false]
   have hin : (s.take ((s.length - 1 : Nat) : Int).toNat).drop 1 = (s.take (s.length - 1)).drop 1 := by simp
   have hil : ((s.take (s.length - 1)).drop 1).length = s.length - 2 := by simp; omega
   refine .chk (decT ⟨by omega, by omega⟩) (.chk (decT ⟨by omega, by omega⟩) (.chk ?_ ?_))
   ·rw [hin, hil]; simp; omega
   ·have := Qn3 lb s ((s.take (s.length - 1)).drop 1) (by omega) (by rw [hw, hin]) _ _ [] [] (Nat.le_refl _) rfl (Nat.le_refl _)
    refine (Evt.diag this).mono fun n hn => Eq.trans hn ?_
    cases unqI ((s.take (s.length - 1)).drop 1) <;> simp
  ·rw [if_neg (by rintro ⟨_, _, q⟩; exact h35 (by simpa using q))]
   have : y.toNat ≠ 34 := fun q => h35 (QgD q)
   simp only [bneT (show (y.toNat : Int) ≠ 34 by omega), cond_true]
   exact .done
 ·rw [if_neg (by rintro ⟨_, q, _⟩; exact h34 (by simpa using q))]
  have : x.toNat ≠ 34 := fun q => h34 (QgD q)
  simp only [bneT (show (x.toNat : Int) ≠ 34 by omega), cond_true]
  exact .done
end Go.Proofs
set_option linter.unusedSimpArgs false
namespace Go.Proofs
open Go.Am
variable (lb : Nat)
end Go.Proofs
set_option linter.unusedSimpArgs false
namespace Go.Proofs
open Go.Am
variable (lb : Nat)
def Qi1 (l : List Bs) : Nat := (l.map List.length).sum
theorem Qnf (w : Bs) (l : List Bs) : Qi1 (w :: l) = w.length + Qi1 l := by simp [Qi1]
theorem Qpr {w : Bs} : ∀ {l : List Bs}, w ∈ l → w.length ≤ Qi1 l
 | [], h => by cases h
 | x :: l, h => by
  rw [Qnf]
  rcases List.mem_cons.1 h with rfl | h
  ·omega
  ·have := Qpr h; omega
def cutR (ps : List Bs) (o : Option (List Bs)) : CV := match o with
 | some l => .tup [.list false (scv (ps ++ l)), .bool true]
 | none => .tup [.list true [], .bool false]
theorem Qvn (s : Bs) {i : Nat} {c : UInt8} (h : s[i]? = some c) : (c.toNat < 128 → Utf8.decode ⟨s.toArray⟩ i = (c.toNat, 1)) ∧ (128 ≤ c.toNat → 126 < (Utf8.decode ⟨s.toArray⟩ i).1) := by
 obtain ⟨hl, hc⟩ := List.getElem?_eq_some_iff.1 h
 have hsz : i < (⟨s.toArray⟩ : ByteArray).size := by simpa [ByteArray.size] using hl
 have hg : ((⟨s.toArray⟩ : ByteArray)[i]'hsz) = c := hc
 refine ⟨fun q => ?_, fun q => ?_⟩
 ·rw [decode_ascii _ _ hsz (by rw [hg]; exact q), hg]
 ·have := (decode_high ⟨s.toArray⟩ i hsz (by rw [hg]; exact q)).1
  omega
theorem QnR (s : Bs) (hs : s.length ≤ 1000000000) : ∀ (t A cur : Bs) (ps : List Bs) (bn q e : Bool), A ++ cur ++ t = s → ps.length ≤ A.length →
  Evt fun n => ∀ k, t.length < k → Qbb lb n k s bn (scv ps) (A.length : Int) q e (A ++ cur).length = some (cutR ps (cutB t cur q e))
 | [], A, cur, ps, bn, q, e, h, hp => .all fun n k hk => by
  obtain ⟨k, rfl⟩ : ∃ m, k = m + 1 := ⟨k - 1, by simp at hk; omega⟩
  have hsA : A ++ cur = s := by simpa using h
  have hl : s.length = A.length + cur.length := by rw [← hsA, List.length_append]
  rw [Qca, decF (by rw [hsA]; omega), cond_false, Qpw, decT ⟨by omega, by omega⟩, QdH, Qer (by rw [Qhf]; omega), QdH]
  have e1 : (s.take ((s.length : Int)).toNat).drop ((A.length : Int)).toNat = cur := by
   rw [Int.toNat_natCast, Int.toNat_natCast, List.take_length, ← hsA, List.drop_left]
  rw [e1, Bool.and_false]
  simp [cutR, cutB, scv]
 | c :: t, A, cur, ps, bn, q, e, h, hp => by
  have hl : s.length = A.length + cur.length + (t.length + 1) := by rw [← h]; simp only [List.length_append, List.length_cons]
  have hat : s[(A ++ cur).length]? = some c := by rw [← h]; simp
  have hlt : (A ++ cur).length < s.length := by rw [List.length_append]; omega
  obtain ⟨d1, d2⟩ := Qvn s hat
  have hnext : (A ++ (cur ++ [c])) ++ t = s := by rw [← h]; simp
  by_cases hbad : c.toNat < 32 ∨ 126 < c.toNat
  ·refine .all fun n k hk => ?_
   obtain ⟨k, rfl⟩ : ∃ m, k = m + 1 := ⟨k - 1, by simp at hk; omega⟩
   rw [Qca, decT hlt, cond_true, cutB, if_pos hbad]
   by_cases h1 : c.toNat < 128
   ·rw [d1 h1]
    rcases hbad with h2 | h2
    ·rw [decT (show ((c.toNat : Nat) : Int) < 32 by omega), cond_true]; rfl
    ·rw [decF (show ¬ ((c.toNat : Nat) : Int) < 32 by omega), cond_false, decT (show ((c.toNat : Nat) : Int) > 126 by omega), cond_true]; rfl
   ·have h3 := d2 (by omega)
    rw [decF (show ¬ (((Utf8.decode ⟨s.toArray⟩ (A ++ cur).length).1 : Nat) : Int) < 32 by omega), cond_false, decT (show (((Utf8.decode ⟨s.toArray⟩ (A ++ cur).length).1 : Nat) : Int) > 126 by omega), cond_true]; rfl
  have hd := d1 (by omega)
  have hpos : (A ++ cur).length + 1 = (A ++ (cur ++ [c])).length := by simp; omega
  have hg : ∀ {x y : Option CV}, (bif decide (((c.toNat : Nat) : Int) < 32) then x else bif decide (((c.toNat : Nat) : Int) > 126) then x else y) = y := by
   intro x y
   rw [decF (by omega), cond_false, decF (by omega), cond_false]
  have step : ∀ q' e', cutB (c :: t) cur q e = cutB t (cur ++ [c]) q' e' →
    (∀ n k, Qbb lb n (k + 1) s bn (scv ps) (A.length : Int) q e (A ++ cur).length = Qbb lb n k s bn (scv ps) (A.length : Int) q' e' ((A ++ cur).length + 1)) →
    Evt fun n => ∀ k, (c :: t).length < k → Qbb lb n k s bn (scv ps) (A.length : Int) q e (A ++ cur).length = some (cutR ps (cutB (c :: t) cur q e)) := by
   intro q' e' h1 h2
   refine (QnR s hs t A (cur ++ [c]) ps bn q' e' hnext hp).mono fun n hn k hk => ?_
   obtain ⟨k, rfl⟩ : ∃ m, k = m + 1 := ⟨k - 1, by simp at hk; omega⟩
   rw [h2, h1, hpos]
   exact hn k (by simp at hk; omega)
  cases e with
  | true =>
   refine step q false (by rw [cutB, if_neg hbad, if_pos rfl]) fun n k => ?_
   rw [Qca, decT hlt, cond_true, hd, hg, cond_true]
  | false =>
   by_cases h92 : q = true ∧ c.toNat = 92
   ·obtain ⟨rfl, h92⟩ := h92
    refine step true true (by rw [cutB, if_neg hbad, if_neg (by decide), if_pos ⟨rfl, h92⟩]) fun n k => ?_
    rw [Qca, decT hlt, cond_true, hd, hg, cond_false, cond_true, beqT (show ((c.toNat : Nat) : Int) = 92 by omega), cond_true]
   by_cases h34 : c.toNat = 34
   ·refine step (!q) false (by rw [cutB, if_neg hbad, if_neg (by decide), if_neg h92, if_pos h34]) fun n k => ?_
    rw [Qca, decT hlt, cond_true, hd, hg, cond_false, beqF (show ((c.toNat : Nat) : Int) ≠ 92 by omega), beqT (show ((c.toNat : Nat) : Int) = 34 by omega)]
    cases q <;> rfl
   by_cases h32 : c.toNat = 32 ∧ (!q) = true
   ·obtain ⟨h32, hq⟩ := h32
    have hq : q = false := by simpa using hq
    subst hq
    refine (QnR s hs t (A ++ (cur ++ [c])) [] (ps ++ [cur]) false false false (by rw [List.append_nil]; exact hnext) (by simp; omega)).mono fun n hn k hk => ?_
    obtain ⟨k, rfl⟩ : ∃ m, k = m + 1 := ⟨k - 1, by simp at hk; omega⟩
    have hn := hn k (by simp at hk; omega)
    rw [Qca, decT hlt, cond_true, hd, hg, cond_false, cond_false, beqF (show ((c.toNat : Nat) : Int) ≠ 34 by omega), cond_false, beqT (show ((c.toNat : Nat) : Int) = 32 by omega), cond_true, Bool.not_false, cond_true,
     decT ⟨by omega, by omega⟩, QdH, decT ⟨by omega, by rw [List.length_append]; omega⟩, QdH, Qer (by rw [Qhf]; omega), QdH, QaB (by omega) (by omega)]
    have e1 : (s.take (((A ++ cur).length : Int)).toNat).drop ((A.length : Int)).toNat = cur := by
     rw [Int.toNat_natCast, Int.toNat_natCast, ← h, List.take_left, List.drop_left]
    rw [e1, Bool.and_false, hpos, show (((A ++ cur).length : Int) + 1) = ((A ++ (cur ++ [c])).length : Int) by rw [← hpos]; omega, show scv ps ++ [[CV.str cur]] = scv (ps ++ [cur]) by simp [scv]]
    rw [List.append_nil] at hn
    rw [hn, cutB, if_neg hbad, if_neg (by decide), if_neg (by simp), if_neg h34, if_pos ⟨h32, rfl⟩]
    cases cutB t [] false false <;> simp [cutR]
   ·refine step q false (by rw [cutB, if_neg hbad, if_neg (by decide), if_neg h92, if_neg h34, if_neg h32]) fun n k => ?_
    rw [Qca, decT hlt, cond_true, hd, hg, cond_false]
    cases q with
    | true =>
     have h92' : c.toNat ≠ 92 := fun x => h92 ⟨rfl, x⟩
     rw [cond_true, beqF (show ((c.toNat : Nat) : Int) ≠ 92 by omega), cond_false, beqF (show ((c.toNat : Nat) : Int) ≠ 34 by omega), cond_false, Bool.not_true]
     cases ((c.toNat : Nat) : Int) == 32 <;> rfl
    | false =>
     have h32' : c.toNat ≠ 32 := fun x => h32 ⟨x, rfl⟩
     rw [cond_false, beqF (show ((c.toNat : Nat) : Int) ≠ 34 by omega), cond_false, beqF (show ((c.toNat : Nat) : Int) ≠ 32 by omega), cond_false]
theorem Qrw (s : Bs) (hs : s.length ≤ 1000000000) : Ret lb Qb2 [.str s] (cutR [] (cutB s [] false false)) := by
 refine .top rfl (.eq (fun n => by rw [Qs0]) ?_)
 exact Evt.diag (QnR lb s hs s [] [] [] true false false rfl (Nat.le_refl _))
def QlS (bn : Bool) (o : Option (List Bs)) : CV := match o with
 | some l => .tup [.list bn (scv l), .int .i64 0]
 | none => .tup [.list true [], .int .i64 3]
theorem Qjx (s : Bs) (x4 x6 r2 : CV) (p9 : Bool × List (List CV)) (ps : List Bs) (b4 b10 : Bool) (hx : x4 = .list b4 (scv ps)) (hsum : ∀ p ∈ ps, p.length ≤ 1000000000) (hps : ps.length ≤ 1000000000) :
  ∀ t p, p ++ t = ps → ∀ out : List Bs, out.length ≤ p.length → Evt fun n => ∀ k, t.length < k → Qep lb n k s x4 x6 r2 p9 (b10, scv ps) (scv out) (p.length : Int) = some (QlS false ((t.mapM Qju).map (out ++ ·)))
 | [], p, h, out, ho => .all fun n k hk => by
  obtain ⟨k, rfl⟩ : ∃ m, k = m + 1 := ⟨k - 1, by simp at hk; omega⟩
  have : p = ps := by simpa using h
  rw [QcR, decF (by rw [this, Qhf]; omega), cond_false, Qn1]
  simp [QlS]
 | w :: t, p, h, out, ho => by
  have hl : ps.length = p.length + (t.length + 1) := by rw [← h]; simp
  have hat : atL (scv ps) (p.length : Int) = some [.str w] := Qbz (Qwm (by rw [← h]; simp))
  have hw : w.length ≤ 1000000000 := hsum w (by rw [← h]; simp)
  have hnext : (p ++ [w]) ++ t = ps := by rw [← h]; simp
  have hlt : (p.length : Int) < ((scv ps).length : Int) := by rw [Qhf]; omega
  have hwr : IntKind.wrap .i64 ((p.length : Int) + 1) = ((p ++ [w]).length : Int) := by rw [QaB (by omega) (by omega)]; simp
  have r1 : room ((scv out).length + 1) 16 = true := Qer (by rw [Qhf]; omega)
  rw [List.mapM_cons]
  cases hpl : QiT w with
  | true =>
   refine (Qjx s x4 x6 r2 p9 ps b4 b10 hx hsum hps t (p ++ [w]) hnext (out ++ [w]) (by simp; omega)).imp2 (Qdl lb w (Nat.le_trans hw (by decide))) fun n hn h1 k hk => ?_
   obtain ⟨k, rfl⟩ : ∃ m, k = m + 1 := ⟨k - 1, by simp at hk; omega⟩
   have hn := hn k (by simp at hk; omega)
   rw [QcR]
   simp only [decT hlt, cond_true, hx, QkZ, Qa0, hat, List.length_cons, List.length_nil, Nat.zero_add, beq_self_eq_true, QdH, get0, h1, QaM, hpl, Bool.not_true, cond_false, Qo9, r1, hwr]
   rw [← hx, show scv out ++ [[CV.str w]] = scv (out ++ [w]) by simp [scv], hn]
   simp only [Qju, hpl, if_true]
   cases t.mapM Qju <;> simp
  | false =>
   have hr : Qju w = match unq w with
     | some t => if QiT t then none else some t
     | none => none := by unfold Qju; rw [hpl]; rfl
   cases hu : unq w with
   | none =>
    refine (QfT lb w hw).imp2 (Qdl lb w (Nat.le_trans hw (by decide))) fun n h2 h1 k hk => ?_
    obtain ⟨k, rfl⟩ : ∃ m, k = m + 1 := ⟨k - 1, by simp at hk; omega⟩
    rw [QcR]
    simp only [decT hlt, cond_true, hx, QkZ, Qa0, hat, List.length_cons, List.length_nil, Nat.zero_add, beq_self_eq_true, QdH, get0, get1, h1, h2, hu, unqR, QkX, QaK, QaM, hpl, Bool.not_false]
    rw [hr, hu]
    rfl
   | some v =>
    have hv : v.length ≤ 1000000000 := by have := Qww v; rw [← QvC hu] at this; omega
    cases hpv : QiT v with
    | true =>
     refine ((QfT lb w hw).and (Qdl lb v (Nat.le_trans hv (by decide)))).imp2 (Qdl lb w (Nat.le_trans hw (by decide))) fun n ⟨h2, h3⟩ h1 k hk => ?_
     obtain ⟨k, rfl⟩ : ∃ m, k = m + 1 := ⟨k - 1, by simp at hk; omega⟩
     rw [QcR]
     simp only [decT hlt, cond_true, hx, QkZ, Qa0, hat, List.length_cons, List.length_nil, Nat.zero_add, beq_self_eq_true, QdH, get0, get1, h1, h2, h3, hu, hpv, unqR, QkX, QaK, QaM, hpl, Bool.not_false, bne_self_eq_false, cond_false]
     rw [hr, hu]
     simp [hpv, QlS]
    | false =>
     refine ((Qjx s x4 x6 r2 p9 ps b4 b10 hx hsum hps t (p ++ [w]) hnext (out ++ [v]) (by simp; omega)).and (QfT lb w hw)).imp2 ((Qdl lb w (Nat.le_trans hw (by decide))).and (Qdl lb v (Nat.le_trans hv (by decide)))) fun n ⟨hn, h2⟩ ⟨h1, h3⟩ k hk => ?_
     obtain ⟨k, rfl⟩ : ∃ m, k = m + 1 := ⟨k - 1, by simp at hk; omega⟩
     have hn := hn k (by simp at hk; omega)
     rw [QcR]
     simp only [decT hlt, cond_true, hx, QkZ, Qa0, hat, List.length_cons, List.length_nil, Nat.zero_add, beq_self_eq_true, QdH, get0, get1, h1, h2, h3, hu, hpv, unqR, QkX, QaK, QaM, hpl, Bool.not_false, bne_self_eq_false, cond_false, Qo9, r1, hwr]
     rw [← hx, show scv out ++ [[CV.str v]] = scv (out ++ [v]) by simp [scv], hn, hr, hu]
     simp only [hpv]
     cases t.mapM Qju <;> simp
theorem QrY : ∀ ps : List Bs, Qi1 ps ≤ (Lib.join ps [32]).length ∧ ps.length ≤ (Lib.join ps [32]).length + 1
 | [] => by simp [Qi1, Lib.join]
 | [w] => by simp [Qi1, Lib.join]
 | w :: x :: r => by
  have := QrY (x :: r)
  have e : Lib.join (w :: x :: r) [32] = w ++ 32 :: Lib.join (x :: r) [32] := by simp [Lib.join, List.intercalate]
  rw [e, Qnf]
  simp only [List.length_append, List.length_cons] at this ⊢
  omega
theorem Qp2 (s : Bs) (hs : s.length ≤ 100000000) : Ret lb QaU [.str s] (QlS s.isEmpty (Qsa s)) := by
 refine .top rfl (.eq (fun n => by rw [QqN]) ?_)
 by_cases h0 : s = []
 ·subst h0; exact .done
 rw [show s.isEmpty = false by simpa using h0]
 simp only [show (s == []) = false by simpa using h0, cond_false]
 refine .call (Qrw lb s (by omega)) ?_
 unfold Qsa
 rw [if_neg h0]
 cases hc : cutB s [] false false with
 | none =>
  simp only [cutR, QkX, get0, get1, Qa0, QaM, Bool.not_false, cond_true]
  exact .of rfl
 | some ps =>
  simp only [cutR, List.nil_append, QkX, get0, get1, Qa0, QaM, Bool.not_true, cond_false, QkZ, Qhf]
  obtain ⟨h1, h2⟩ := QlR hc
  have h3 := QrY ps
  rw [h2] at h3
  simp only [List.nil_append] at h3
  refine .chk ?_ ?_
  ·simp; omega
  ·refine (Evt.diag (Qjx lb s (.list false (scv ps)) _ _ _ ps false false rfl (fun p hp => by have := Qpr hp; omega) (by omega) ps [] rfl [] (Nat.le_refl _))).mono fun n hn => Eq.trans hn ?_
   rw [Option.bind_some]
   cases ps.mapM Qju <;> simp
end Go.Proofs
set_option linter.unusedSimpArgs false
namespace Go.Proofs
open Go.Am
variable (lb : Nat)
theorem Qip {x : Int} (h0 : 0 ≤ x) (h1 : x < 18446744073709551616) : IntKind.wrap .u64 x = x := by
 unfold IntKind.wrap
 simp only [IntKind.bits, IntKind.signed]
 simp
 omega
theorem QfU (z : Int) (h0 : -9223372036854775808 ≤ z) (h1 : z ≤ 9223372036854775807) : Ret lb Qdf [.int .i64 z] (.str (Lib.itoa z)) := by
 refine .top rfl (.eq (fun n => by rw [Qoy]) ?_)
 refine .call (v := .str (Lib.itoa z)) (.lib rfl ?_) .done
 simp only [QkP, if_pos (And.intro h0 h1), Qsk h0 h1]
theorem QqH : ∀ d, d < 10 → (([48, 49, 50, 51, 52, 53, 54, 55, 56, 57] : Bs).take (d + 1)).drop d = [UInt8.ofNat (48 + d)] := by decide +kernel
theorem QjX : ∀ (N u : Nat), u ≤ N → u < 18446744073709551616 → Ret lb QeK [.int .u64 (u : Int)] (.str (Lib.decDigits u)) := by
 intro N
 induction N with
 | zero =>
  intro u hu _
  have : u = 0 := by omega
  subst this
  refine .top rfl (.all fun n => ?_)
  rw [Qk7, Lib.decDigits, dif_pos (by decide)]
  rfl
 | succ N ih =>
  intro u hu h64
  refine .top rfl (.eq (fun n => by rw [Qk7]) ?_)
  by_cases h : u < 10
  ·simp only [decT (show (u : Int) < 10 by omega), cond_true, Qip (x := (u : Int) + 1) (by omega) (by omega)]
   refine .chk (decT ⟨by omega, by omega⟩) (.chk (decT ⟨by omega, by omega⟩) ?_)
   rw [Lib.decDigits, dif_pos h, show ((u : Int) + 1).toNat = u + 1 by omega, Int.toNat_natCast, QqH u h]
   exact .done
  ·simp only [decF (show ¬ (u : Int) < 10 by omega), cond_false]
   have e1 : IntKind.wrap .u64 (Int.tdiv (u : Int) 10) = ((u / 10 : Nat) : Int) := by
    rw [show Int.tdiv (u : Int) 10 = ((u / 10 : Nat) : Int) from rfl, Qip (by omega) (by omega)]
   have e2 : Int.tmod (u : Int) 10 = ((u % 10 : Nat) : Int) := rfl
   have e3 : IntKind.wrap .u64 (((u % 10 : Nat) : Int) + 1) = ((u % 10 + 1 : Nat) : Int) := by rw [Qip (by omega) (by omega)]; omega
   simp only [e1, e2, e3]
   refine .call (ih (u / 10) (by omega) (by omega)) ?_
   refine .chk (decT ⟨by omega, by omega⟩) (.chk (decT ⟨by omega, by omega⟩) ?_)
   simp only [Qa0, QtK, Int.toNat_natCast, QqH _ (show u % 10 < 10 by omega)]
   rw [Lib.decDigits.eq_def u, dif_neg h]
   refine .chk (decT ?_) .done
   have := QeI (z := ((u / 10 : Nat) : Int)) (by omega) (by omega)
   unfold Lib.itoa at this
   rw [if_neg (by omega), Int.toNat_natCast] at this
   simp only [List.length_cons, List.length_nil]
   omega
theorem Qgv (z : Int) (h0 : -9223372036854775808 ≤ z) (h1 : z ≤ 9223372036854775807) : Ret lb QdA [.int .i64 z] (.str (Lib.itoa z)) := by
 refine .top rfl (.eq (fun n => by rw [Qp9]) ?_)
 unfold Lib.itoa
 by_cases h : z < 0
 ·simp only [decT h, cond_true, if_pos h, QaB (x := z + 1) (by omega) (by omega), QaB (x := 0 - (z + 1)) (by omega) (by omega), Qip (x := 0 - (z + 1)) (by omega) (by omega), Qip (x := 0 - (z + 1) + 1) (by omega) (by omega)]
  rw [show 0 - (z + 1) + 1 = (z.natAbs : Int) by omega]
  refine .call (QjX lb z.natAbs z.natAbs (Nat.le_refl _) (by omega)) ?_
  simp only [Qa0, QtK]
  refine .chk (decT ?_) .done
  have := QeI h0 h1
  unfold Lib.itoa at this
  rw [if_pos h] at this
  simp only [List.length_cons, List.length_nil] at this ⊢
  omega
 ·simp only [decF h, cond_false, if_neg h, Qip (x := z) (by omega) (by omega)]
  have := QjX lb z.toNat z.toNat (Nat.le_refl _) (by omega)
  rw [show ((z.toNat : Nat) : Int) = z by omega] at this
  exact .call this .done
end Go.Proofs
set_option linter.unusedSimpArgs false
namespace Go.Proofs
open Go.Am
variable (lb : Nat)
def QbU (c : UInt8) : Bs → List Bs
 | [] => [[]]
 | x :: r => if x = c then [] :: QbU c r else match QbU c r with
  | w :: ws => (x :: w) :: ws
  | [] => [[x]]
theorem Qqv (c : UInt8) : ∀ s, QbU c s ≠ []
 | [] => by simp [QbU]
 | x :: r => by
  unfold QbU
  split
  ·simp
  ·split <;> simp
theorem Qlm (c : UInt8) (l : Bs) : Lib.index (c :: l) [c] = 0 := by
 rw [Lib.index]
 simp
theorem Qq0 {b c : UInt8} (l : Bs) (h : b ≠ c) : Lib.index (b :: l) [c] = if Lib.index l [c] = -1 then -1 else Lib.index l [c] + 1 := by
 rw [Lib.index]
 have : ¬ c = b := fun q => h q.symm
 simp [this]
theorem QsS {c : UInt8} {l : Bs} (h : Lib.count l [c] ≠ 0) : Lib.index l [c] ≠ -1 := by
 intro q
 apply h
 unfold Lib.count
 rw [Lib.countFrom]
 simp [q]
theorem QkY {c : UInt8} {k : Nat} {l : Bs} (h : Lib.index l [c] ≠ -1) : Lib.splitK [c] 0 (k + 1) l = l.take (Lib.index l [c]).toNat :: Lib.splitK [c] 0 k (l.drop ((Lib.index l [c]).toNat + 1)) := by
 rw [Lib.splitK]
 have : (Lib.index l [c] == -1) = false := by simpa using h
 simp [this]
theorem Qqh (c : UInt8) : ∀ s : Bs, Lib.split s [c] = QbU c s
 | [] => by simp [Lib.split, Lib.count, Lib.countFrom, Lib.index, QbU, Lib.splitK]
 | x :: l => by
  have ih := Qqh c l
  unfold Lib.split at ih ⊢
  by_cases h : x = c
  ·subst h
   rw [Lib.count_cons_eq, Nat.add_comm 1, QkY (by rw [Qlm]; decide), Qlm]
   simp only [QbU, if_true]
   simpa using ih
  ·rw [Lib.count_cons_ne x c l h]
   cases hk : Lib.count l [c] with
   | zero =>
    rw [hk] at ih
    simp only [Lib.splitK] at ih ⊢
    simp [QbU, h, ← ih]
   | succ k =>
    have hi := QsS (c := c) (l := l) (by omega)
    have hge := Lib.index_ge l [c]
    rw [hk, QkY hi] at ih
    have hx : Lib.index (x :: l) [c] = Lib.index l [c] + 1 := by rw [Qq0 l h, if_neg hi]
    rw [QkY (by rw [hx]; omega), hx]
    obtain ⟨i, hi'⟩ : ∃ i : Nat, Lib.index l [c] = i := ⟨(Lib.index l [c]).toNat, by omega⟩
    rw [hi'] at ih ⊢
    rw [show ((i : Int) + 1).toNat = i + 1 by omega, List.take_succ_cons, List.drop_succ_cons]
    rw [Int.toNat_natCast] at ih
    simp [QbU, h, ← ih]
def nmB (b : Bool) : Bs → Bool
 | [] => !b
 | c :: r => if isUp c then nmB false r else if c.toNat = 32 then !b && nmB true r else false
def QgA (s : Bs) : Bool := decide (s.length ≤ 30) && nmB true s
def Qfe (ws : List Bs) : Bool := ws.all fun w => !w.isEmpty && w.all isUp
theorem Qv1 {c : UInt8} (h : isUp c = true) : c.toNat ≠ 32 ∧ c ≠ 32 := by
 simp only [isUp, Bool.and_eq_true, decide_eq_true_eq] at h
 exact ⟨by omega, fun q => by subst q; simp at h⟩
theorem QrZ : ∀ s : Bs, Qfe (QbU 32 s) = nmB true s ∧ (match QbU 32 s with
  | w :: ws => w.all isUp && Qfe ws
  | [] => false) = nmB false s
 | [] => by simp [QbU, Qfe, nmB]
 | c :: r => by
  obtain ⟨h1, h2⟩ := QrZ r
  unfold QbU nmB
  by_cases hu : isUp c = true
  ·have := Qv1 hu
   rw [if_neg this.2]
   simp only [hu, if_true]
   cases hs : QbU 32 r with
   | nil => exact (Qqv 32 r hs).elim
   | cons w ws =>
    rw [hs] at h2
    simp only at h2
    constructor
    ·rw [← h2]; simp [Qfe, hu]
    ·rw [← h2]; simp [hu]
  ·by_cases h32 : c.toNat = 32
   ·have hc : c = 32 := QgD h32
    simp only [hu, hc, if_true, Bool.false_eq_true, if_false]
    have hu32 : isUp 32 = false := rfl
    constructor
    ·simp [Qfe, hu32]
    ·simp [h1, hu32]
   ·have hc : c ≠ 32 := fun q => h32 (by rw [q]; rfl)
    simp only [hu, hc, h32, if_false, Bool.false_eq_true]
    cases hs : QbU 32 r with
    | nil => exact (Qqv 32 r hs).elim
    | cons w ws => simp [Qfe, hu]
theorem Qoj (c : UInt8) : ∀ s, (QbU c s).length ≤ s.length + 1 ∧ ∀ w ∈ QbU c s, w.length ≤ s.length
 | [] => by simp [QbU]
 | x :: r => by
  obtain ⟨h1, h2⟩ := Qoj c r
  unfold QbU
  split
  ·refine ⟨by simp; omega, fun w hw => ?_⟩
   rcases List.mem_cons.1 hw with rfl | hw
   ·simp
   ·have := h2 w hw; simp; omega
  ·split
   ·rename_i w ws hs
    rw [hs] at h1 h2
    refine ⟨by simp at h1 ⊢; omega, fun v hv => ?_⟩
    rcases List.mem_cons.1 hv with rfl | hv
    ·have := h2 w (List.mem_cons_self ..); simp; omega
    ·have := h2 v (List.mem_cons_of_mem _ hv); simp; omega
   ·refine ⟨by simp, fun v hv => ?_⟩
    simp only [List.mem_cons, List.not_mem_nil, or_false] at hv
    subst hv; simp
theorem QuP (s : Bs) (c : UInt8) (hs : s.length ≤ 1000000000) : Ret lb QeG [.str s, .str [c]] (.list false (scv (QbU c s))) := by
 refine .lib rfl ?_
 unfold Qi9
 simp only
 rw [if_pos ⟨by omega, by simp⟩, Qqh]
 rfl
theorem Qra (s : Bs) (hs : s.length ≤ 1000000000) : Ret lb Qbx [.str s] (.bool (QgA s)) := by
 refine .top rfl (.eq (fun n => by rw [Qmk]) ?_)
 unfold QgA
 by_cases h : s.length ≤ 30
 ·simp only [decF (show ¬ (s.length : Int) > 30 by omega), cond_false, h, decide_true, Bool.true_and]
  refine .call (QuP lb s 32 hs) ?_
  simp only [Qa0, QkZ]
  rw [← (QrZ s).1]
  obtain ⟨h1, h2⟩ := Qoj 32 s
  generalize QbU 32 s = l at h1 h2
  refine Evt.diag (m := l.length) (Qea (enc := fun w => [CV.str w]) (l := l) (by omega) (P := fun p t n k => Qgd lb n k s (.list false (scv l)) (false, scv l) (p.length : Int) = some (.bool (Qfe t))) ?_ ?_ l [] rfl)
  ·refine .all fun n k => ?_
   rw [Qh8, decF (by rw [Qhf]; omega), cond_false, Qou]
   rfl
  ·intro p w t hp hlt hat hw hev
   have hwl := h2 w (by rw [← hp]; simp)
   refine hev.imp2 (QfA lb w (by omega)) fun n hn hc k hk => ?_
   have hat : atL (scv l) (p.length : Int) = some [.str w] := hat
   have hlt : (p.length : Int) < ((scv l).length : Int) := hlt
   rw [Qh8]
   simp only [decT hlt, cond_true, QkZ, Qa0, hat, List.length_cons, List.length_nil, Nat.zero_add, beq_self_eq_true, QdH, get0, QtK, hc, QaM, hw]
   unfold Qfe
   rw [List.all_cons]
   cases w with
   | nil => rfl
   | cons x xs =>
    simp only [show (x :: xs == []) = false from rfl, cond_false, List.isEmpty_cons, Bool.not_false, Bool.true_and]
    cases (x :: xs).all isUp
    ·rfl
    ·simpa [Qfe] using hn k hk
 ·simp only [decT (show (s.length : Int) > 30 by omega), cond_true, h, decide_false, Bool.false_and]
  first | exact .done | exact .of trivial
theorem QpO : ∀ (s : Bs) (b : Bool) (x : UInt8), s.getLast? = some x → x.toNat = 32 → nmB b s = false
 | [], _, _, h, _ => by simp at h
 | [c], b, x, h, hx => by
  simp at h; subst h
  have : isUp c = false := by simp [isUp, hx]
  simp [nmB, this, hx]
 | c :: d :: r, b, x, h, hx => by
  have h' : (d :: r).getLast? = some x := by simpa [List.getLast?_cons] using h
  rw [nmB]
  split
  ·exact QpO _ _ _ h' hx
  ·split
   ·rw [QpO _ _ _ h' hx]; simp
   ·rfl
theorem Qll (s : Bs) (hs : s.length ≤ 1000000000) (hlast : ∀ x, s.getLast? = some x → x.toNat ≠ 32) : ∀ (t p : Bs) (x : UInt8), p ++ x :: t = s →
  Evt fun n => ∀ k, t.length < k → Qfr lb n k s ((p ++ [x]).length : Int) = some (.bool (nmB (decide (x.toNat = 32)) t))
 | [], p, x, h => .all fun n k hk => by
  obtain ⟨k, rfl⟩ : ∃ m, k = m + 1 := ⟨k - 1, by simp at hk; omega⟩
  have hx := hlast x (by rw [← h]; simp)
  rw [QfW, decF (by rw [← h]; omega), cond_false, QpG]
  simp [nmB, hx]
 | c :: t, p, x, h => by
  have hl : s.length = p.length + (t.length + 2) := by rw [← h]; simp
  have e : (p ++ [x]).length = p.length + 1 := by simp
  have hat : atS s ((p ++ [x]).length : Int) = some c := QhI (by rw [← h, e]; simp [List.getElem?_append_right])
  have hat2 : atS s (p.length : Int) = some x := QhI (by rw [← h]; simp)
  refine (Qll s hs hlast t (p ++ [x]) c (by rw [← h]; simp)).imp2 (QdB lb c) fun n hn hc k hk => ?_
  obtain ⟨k, rfl⟩ : ∃ m, k = m + 1 := ⟨k - 1, by simp at hk; omega⟩
  have hn := hn k (by simp at hk; omega)
  have e2 : IntKind.wrap .i64 (((p ++ [x]).length : Int) + 1) = ((p ++ [x] ++ [c]).length : Int) := by rw [QaB (by omega) (by omega)]; simp only [List.length_append, List.length_cons, List.length_nil]; omega
  have e3 : IntKind.wrap .i64 (((p ++ [x]).length : Int) - 1) = (p.length : Int) := by rw [QaB (by omega) (by omega)]; omega
  rw [QfW]
  simp only [decT (show (((p ++ [x]).length : Nat) : Int) < (s.length : Int) by omega), cond_true, hat, Qa0, hc, QaM, e2, e3, hat2, nmB]
  cases hu : isUp c with
  | true =>
   have := (Qv1 hu).1
   rw [decF this] at hn
   simpa using hn
  | false =>
   rw [Bool.not_false, cond_true]
   by_cases h32 : c.toNat = 32
   ·rw [bneF (by omega), cond_false]
    by_cases hx : x.toNat = 32
    ·rw [beqT (by omega), cond_true]
     simp [h32, hx]
    ·rw [beqF (by omega), cond_false]
     rw [decT h32] at hn
     simpa [h32, hx] using hn
   ·rw [bneT (by omega), cond_true]
    simp [h32]
theorem Qmo (s : Bs) (hs : s.length ≤ 1000000000) : Ret lb QbS [.str s] (.bool (QgA s)) := by
 refine .top rfl (.eq (fun n => by rw [Qs3]) ?_)
 unfold QgA
 match s, hs with
 | [], _ => exact .of rfl
 | c :: r, hs =>
  simp only [decF (show ¬ ((c :: r).length : Int) < 1 by simp only [List.length_cons]; omega), cond_false]
  by_cases h30 : (c :: r).length ≤ 30
  ·simp only [decF (show ¬ ((c :: r).length : Int) > 30 by omega), cond_false, h30, decide_true, Bool.true_and]
   simp only [show atS (c :: r) 0 = some c from rfl]
   simp only [Qa0]
   by_cases h32 : c.toNat = 32
   ·simp only [beqT (show (c.toNat : Int) = 32 by omega), cond_true]
    have : isUp c = false := by simp [isUp, h32]
    exact .of (by simp [nmB, h32, this])
   ·simp only [beqF (show (c.toNat : Int) ≠ 32 by omega), cond_false]
    obtain ⟨x, hx⟩ : ∃ x, (c :: r).getLast? = some x := by
     cases hq : (c :: r).getLast? with
     | none => simp at hq
     | some x => exact ⟨x, rfl⟩
    have hw : IntKind.wrap .i64 (((c :: r).length : Int) - 1) = ((r.length : Nat) : Int) := by rw [QaB (by simp only [List.length_cons] at hs ⊢; omega) (by simp only [List.length_cons] at hs ⊢; omega)]; simp
    have hat : atS (c :: r) ((r.length : Nat) : Int) = some x := QhI (by rw [List.getLast?_eq_getElem?] at hx; simpa using hx)
    rw [hw]
    simp only [hat]
    simp only [Qa0]
    by_cases hx32 : x.toNat = 32
    ·simp only [beqT (show (x.toNat : Int) = 32 by omega), cond_true]
     rw [QpO _ _ _ hx hx32]
     exact .done
    ·simp only [beqF (show (x.toNat : Int) ≠ 32 by omega), cond_false]
     have hlast : ∀ y, (c :: r).getLast? = some y → y.toNat ≠ 32 := fun y hy => by
      rw [hx] at hy
      simp only [Option.some.injEq] at hy
      rw [← hy]; exact hx32
     refine ((Qll lb (c :: r) hs hlast r [] c rfl).and (Evt.ge (r.length + 2))).imp2 (QdB lb c) fun n ⟨hn, hge⟩ hc => ?_
     obtain ⟨k, rfl⟩ : ∃ k, n = k + 1 := ⟨n - 1, by omega⟩
     have hn := hn k (by omega)
     rw [QfW]
     simp only [decT (show (0 : Int) < ((c :: r).length : Int) by simp only [List.length_cons]; omega), cond_true]
     simp only [show atS (c :: r) 0 = some c from rfl]
     simp only [Qa0, hc, QaM]
     cases hu : isUp c with
     | true =>
      rw [Bool.not_true, cond_false, QaB (by omega) (by omega)]
      rw [decF h32] at hn
      simpa [nmB, hu] using hn
     | false =>
      rw [Bool.not_false, cond_true, bneT (by omega), cond_true]
      simp [nmB, hu, h32]
  ·simp only [decT (show ((c :: r).length : Int) > 30 by omega), cond_true, h30, decide_false, Bool.false_and]
   first | exact .done | exact .of trivial
end Go.Proofs
