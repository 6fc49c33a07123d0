/- What the functions of package text and of its reference answer: quoted texts. Conditions: as each says. -/
import Derived.Test.YtigmcfhmpcajlaaGreatDoorG1
import Derived.Test.YtigmcfhmpcajlaaGreatDoorRk
import Derived.Laws.RangeAny
import Derived.Laws.RangeString
import Derived.Lib.SplitLaws
set_option linter.unusedSimpArgs false
namespace Go.Proofs
open Go.Am
variable (lb : Nat)
theorem Qqx : ∀ n : Nat, n < 16 → atS [48, 49, 50, 51, 52, 53, 54, 55, 56, 57, 97, 98, 99, 100, 101, 102] (n : Int) = some (hexB n) := by decide +kernel
theorem QAs (c : UInt8) : Int.fdiv (c.toNat : Int) (2 ^ 4) = ((c.toNat / 16 : Nat) : Int) := by
 revert c; refine QeI ?_; decide +kernel
theorem QBc (c : UInt8) : IntKind.wrap .u8 ((BitVec.ofInt 8 (c.toNat : Int) &&& BitVec.ofInt 8 15).toNat) = ((c.toNat % 16 : Nat) : Int) := by
 revert c; refine QeI ?_; decide +kernel
theorem QAl (c : UInt8) : IntKind.wrap .u8 (Int.tdiv (c.toNat : Int) 16) = ((c.toNat / 16 : Nat) : Int) := by
 revert c; refine QeI ?_; decide +kernel
theorem QAI (c : UInt8) : Int.tmod (c.toNat : Int) 16 = ((c.toNat % 16 : Nat) : Int) := by
 revert c; refine QeI ?_; decide +kernel
theorem Qrl (s : Bs) (hs : s.length ≤ 1000000000) : Ret lb QbN [.str s] (.str (quo s)) := by
 refine .top rfl (.eq (fun n => by rw [QsR]) ?_)
 rw [QaN (by omega) (by omega)]
 refine .chk (by simp; omega) ?_
 refine Evt.diag (m := s.length) (QhW (Nat.le_trans hs (by decide)) (P := fun p _ n k => QcS lb n k s (bcv (34 :: p.flatMap esc)) (p.length : Int) = some (.str (quo s))) ?_ ?_ s [] rfl)
 ·refine .all fun n k => ?_
  have := QhL s
  rw [Qiy, decF (by omega), cond_false, QoP, Qbg (by rw [Qd1, List.length_cons]; omega), Qbf]
  rw [show bcv (34 :: s.flatMap esc) ++ [[CV.int .u8 34]] = bcv (quo s) from by simp [quo, bcv], QeU]
  rfl
 ·intro p c t hp hlt hat hw hev
  refine hev.mono fun n hn k hk => ?_
  have hn := hn k hk
  rw [← hw] at hn
  have hl : s.length = p.length + (t.length + 1) := by rw [← hp]; simp
  have hf := QhL p
  have hc : c.toNat < 256 := c.toNat_lt
  have hb : (bcv (34 :: p.flatMap esc)).length ≤ 4000000001 := by rw [Qd1]; simp only [List.length_cons]; omega
  rw [Qiy]
  simp only [hlt, decide_true, cond_true, hat, QaP, QAs, QBc, Qqx _ (show c.toNat / 16 < 16 by omega), Qqx _ (show c.toNat % 16 < 16 by omega)]
  have hst : ∀ e : Bs, esc c = e → bcv (34 :: p.flatMap esc) ++ bcv e = bcv (34 :: (p ++ [c]).flatMap esc) := by
   intro e he; simp [bcv, he]
  by_cases h1 : c.toNat = 34
  ·rw [beqT (by omega), cond_true, Qbg (by omega), Qbf, show [[CV.int .u8 92], [CV.int .u8 (c.toNat : Int)]] = bcv [92, c] from rfl, hst [92, c] (by simp [esc, h1])]
   exact hn
  rw [beqF (by omega), cond_false]
  by_cases h2 : c.toNat = 92
  ·rw [beqT (by omega), cond_true, Qbg (by omega), Qbf, show [[CV.int .u8 92], [CV.int .u8 (c.toNat : Int)]] = bcv [92, c] from rfl, hst [92, c] (by simp [esc, h2])]
   exact hn
  rw [beqF (by omega), cond_false]
  have r4 : room ((bcv (34 :: p.flatMap esc)).length + 4) 1 = true := Qbg (by omega)
  have r1 : room ((bcv (34 :: p.flatMap esc)).length + 1) 1 = true := Qbg (by omega)
  by_cases h3 : c.toNat < 32
  ·rw [decT (by omega), cond_true, r4, Qbf, show [[CV.int .u8 92], [CV.int .u8 120], [CV.int .u8 ((hexB (c.toNat / 16)).toNat : Int)], [CV.int .u8 ((hexB (c.toNat % 16)).toNat : Int)]] = bcv [92, 120, hexB (c.toNat / 16), hexB (c.toNat % 16)] from rfl,
    hst _ (by simp [esc, h1, h2, h3])]
   exact hn
  rw [decF (by omega), cond_false]
  by_cases h4 : 126 < c.toNat
  ·rw [decT (by omega), cond_true, r4, Qbf, show [[CV.int .u8 92], [CV.int .u8 120], [CV.int .u8 ((hexB (c.toNat / 16)).toNat : Int)], [CV.int .u8 ((hexB (c.toNat % 16)).toNat : Int)]] = bcv [92, 120, hexB (c.toNat / 16), hexB (c.toNat % 16)] from rfl,
    hst _ (by simp [esc, h1, h2, h4])]
   exact hn
  rw [decF (by omega), cond_false, r1, Qbf, show [[CV.int .u8 (c.toNat : Int)]] = bcv [c] from rfl, hst _ (by simp [esc, h1, h2, h3, h4])]
  exact hn
theorem QsM (s : Bs) (hs : s.length ≤ 1000000000) : Ret lb Qb3 [.str s] (.str (quo s)) := by
 refine .top rfl (.eq (fun n => by rw [QtW]) ?_)
 refine Evt.diag (m := s.length) (QhW (Nat.le_trans hs (by decide)) (P := fun p _ n k => Qdf lb n k s (bcv (34 :: p.flatMap esc)) (p.length : Int) = some (.str (quo s))) ?_ ?_ s [] rfl)
 ·refine .all fun n k => ?_
  have := QhL s
  rw [QiV, decF (by omega), cond_false, QpU, Qbg (by rw [Qd1, List.length_cons]; omega), Qbf]
  rw [show bcv (34 :: s.flatMap esc) ++ [[CV.int .u8 34]] = bcv (quo s) from by simp [quo, bcv], QeU]
  rfl
 ·intro p c t hp hlt hat hw hev
  refine hev.mono fun n hn k hk => ?_
  have hn := hn k hk
  rw [← hw] at hn
  have hl : s.length = p.length + (t.length + 1) := by rw [← hp]; simp
  have hf := QhL p
  have hc : c.toNat < 256 := c.toNat_lt
  have hb : (bcv (34 :: p.flatMap esc)).length ≤ 4000000001 := by rw [Qd1]; simp only [List.length_cons]; omega
  rw [QiV]
  simp only [hlt, decide_true, cond_true, hat, QaP, QAl, QAI, Qqx _ (show c.toNat / 16 < 16 by omega), Qqx _ (show c.toNat % 16 < 16 by omega)]
  have hst : ∀ e : Bs, esc c = e → bcv (34 :: p.flatMap esc) ++ bcv e = bcv (34 :: (p ++ [c]).flatMap esc) := by
   intro e he; simp [bcv, he]
  have r4 : room ((bcv (34 :: p.flatMap esc)).length + 4) 1 = true := Qbg (by omega)
  have r1 : room ((bcv (34 :: p.flatMap esc)).length + 1) 1 = true := Qbg (by omega)
  have r2 : room ((bcv (34 :: p.flatMap esc) ++ [[CV.int .u8 92]]).length + 1) 1 = true := Qbg (by rw [List.length_append]; simp only [List.length_cons, List.length_nil]; omega)
  by_cases h3 : c.toNat < 32
  ·rw [decT (by omega), cond_true, r4, Qbf, show [[CV.int .u8 92], [CV.int .u8 120], [CV.int .u8 ((hexB (c.toNat / 16)).toNat : Int)], [CV.int .u8 ((hexB (c.toNat % 16)).toNat : Int)]] = bcv [92, 120, hexB (c.toNat / 16), hexB (c.toNat % 16)] from rfl,
    hst _ (by simp [esc, h3]; omega)]
   exact hn
  rw [decF (by omega), cond_false]
  by_cases h4 : 126 < c.toNat
  ·rw [decT (by omega), cond_true, r4, Qbf, show [[CV.int .u8 92], [CV.int .u8 120], [CV.int .u8 ((hexB (c.toNat / 16)).toNat : Int)], [CV.int .u8 ((hexB (c.toNat % 16)).toNat : Int)]] = bcv [92, 120, hexB (c.toNat / 16), hexB (c.toNat % 16)] from rfl,
    hst _ (by simp [esc, h4]; omega)]
   exact hn
  rw [decF (by omega), cond_false]
  by_cases h1 : c.toNat = 34
  ·rw [beqT (by omega), cond_true, r1, Qbf, r2, Qbf, List.append_assoc, show [[CV.int .u8 92]] ++ [[CV.int .u8 (c.toNat : Int)]] = bcv [92, c] from rfl, hst [92, c] (by simp [esc, h1])]
   exact hn
  rw [beqF (by omega), cond_false]
  by_cases h2 : c.toNat = 92
  ·rw [beqT (by omega), cond_true, r1, Qbf, r2, Qbf, List.append_assoc, show [[CV.int .u8 92]] ++ [[CV.int .u8 (c.toNat : Int)]] = bcv [92, c] from rfl, hst [92, c] (by simp [esc, h2])]
   exact hn
  rw [beqF (by omega), cond_false, r1, Qbf, show [[CV.int .u8 (c.toNat : Int)]] = bcv [c] from rfl, hst _ (by simp [esc, h1, h2, h3, h4])]
  exact hn
end Go.Proofs
set_option linter.unusedSimpArgs false
namespace Go.Proofs
open Go.Am
variable (lb : Nat)
def isUp (c : UInt8) : Bool := decide (65 ≤ c.toNat) && decide (c.toNat ≤ 90)
theorem QnW {a : Int} {x y : Int} {p : Bool} (hp : p = (decide (x ≤ a) && decide (a ≤ y))) : (bif decide (a ≥ x) then some (CV.bool (decide (a ≤ y))) else some (CV.bool false)) = some (CV.bool p) := by
 subst hp
 by_cases h : x ≤ a
 ·simp [h]
 ·simp [h]
theorem Qgs (c : UInt8) : Ret lb QbE [.int .u8 (c.toNat : Int)] (.bool (isUp c)) :=
 .top rfl (.all fun n => by rw [QqF, QnW (p := isUp c) (by revert c; exact QeI (by decide +kernel))])
theorem Qd0 (c : UInt8) : Ret lb Qef [.int .u8 (c.toNat : Int)] (.bool (isUp c)) :=
 .top rfl (.all fun n => by rw [Qth, QnW (p := isUp c) (by revert c; exact QeI (by decide +kernel))])
theorem QkY (c : UInt8) : Ret lb Qcj [.int .u8 (c.toNat : Int)] (.bool (isDg c)) :=
 .top rfl (.all fun n => by rw [QsE, QnW (p := isDg c) (by revert c; exact QeI (by decide +kernel))])
theorem QsS (c : UInt8) : Ret lb Qkv [.int .u8 (c.toNat : Int)] (.bool (isDg c)) :=
 .top rfl (.all fun n => by rw [QtB, QnW (p := isDg c) (by revert c; exact QeI (by decide +kernel))])
theorem Qpl (c : UInt8) : Ret lb QcR [.int .u8 (c.toNat : Int)] (.bool (isUp c || isDg c)) := by
 refine .top rfl (.eq (fun n => by rw [QqU]) ?_)
 refine .call (Qgs lb c) ?_
 simp only [QaP, QaU]
 cases isUp c
 ·simp only [cond_false, Bool.false_or]
  refine .call (QkY lb c) .done
 ·exact .done
theorem Qo8 (c : UInt8) : Ret lb Qcy [.int .u8 (c.toNat : Int)] (.bool (isPl c)) := by
 refine .top rfl (.all fun n => ?_)
 rw [QpM]
 revert c
 refine QeI ?_
 have : ∀ k, k < 256 → (bif decide (((UInt8.ofNat k).toNat : Int) > 32) then bif decide (((UInt8.ofNat k).toNat : Int) ≤ 126) then ((((UInt8.ofNat k).toNat : Int) != 34)) else false else false) = isPl (UInt8.ofNat k) := by decide +kernel
 intro k hk
 rw [← this k hk]
 cases decide (((UInt8.ofNat k).toNat : Int) > 32)
 ·rfl
 ·cases decide (((UInt8.ofNat k).toNat : Int) ≤ 126) <;> rfl
theorem QgX (s : Bs) (hs : s.length ≤ 281474976710656) : Ret lb Qai [.str s, .fn Qcj] (.bool (s.all fun c => isDg c)) := by
 refine .top rfl (.eq (fun n => by rw [QjM]) ?_)
 refine Evt.diag (m := s.length) (QhW hs (P := fun p t n k => QcC lb n k s (p.length : Int) = some (.bool (t.all fun c => isDg c))) ?_ ?_ s [] rfl)
 ·refine .all fun n k => ?_
  rw [Qeg, decF (by omega), cond_false, Qiu]
  rfl
 ·intro p c t hp hlt hat hw hev
  refine hev.imp2 (QkY lb c) fun n hn hc k hk => ?_
  rw [Qeg]
  simp only [hlt, decide_true, cond_true, hat, QaP, hc, QaU, hw, List.all_cons]
  cases (isDg c)
  ·rfl
  ·simpa using hn k hk
theorem Qf0 (s : Bs) (hs : s.length ≤ 281474976710656) : Ret lb Qai [.str s, .fn QbE] (.bool (s.all fun c => isUp c)) := by
 refine .top rfl (.eq (fun n => by rw [QiE]) ?_)
 refine Evt.diag (m := s.length) (QhW hs (P := fun p t n k => Qcl lb n k s (p.length : Int) = some (.bool (t.all fun c => isUp c))) ?_ ?_ s [] rfl)
 ·refine .all fun n k => ?_
  rw [QdZ, decF (by omega), cond_false, Qhn]
  rfl
 ·intro p c t hp hlt hat hw hev
  refine hev.imp2 (Qgs lb c) fun n hn hc k hk => ?_
  rw [QdZ]
  simp only [hlt, decide_true, cond_true, hat, QaP, hc, QaU, hw, List.all_cons]
  cases (isUp c)
  ·rfl
  ·simpa using hn k hk
theorem QkM (s : Bs) (hs : s.length ≤ 281474976710656) : Ret lb Qai [.str s, .fn QcR] (.bool (s.all fun c => isUp c || isDg c)) := by
 refine .top rfl (.eq (fun n => by rw [Qje]) ?_)
 refine Evt.diag (m := s.length) (QhW hs (P := fun p t n k => Qcz lb n k s (p.length : Int) = some (.bool (t.all fun c => isUp c || isDg c))) ?_ ?_ s [] rfl)
 ·refine .all fun n k => ?_
  rw [Qd9, decF (by omega), cond_false, QhD]
  rfl
 ·intro p c t hp hlt hat hw hev
  refine hev.imp2 (Qpl lb c) fun n hn hc k hk => ?_
  rw [Qd9]
  simp only [hlt, decide_true, cond_true, hat, QaP, hc, QaU, hw, List.all_cons]
  cases (isUp c || isDg c)
  ·rfl
  ·simpa using hn k hk
theorem Qkx (s : Bs) (hs : s.length ≤ 281474976710656) : Ret lb Qai [.str s, .fn Qcy] (.bool (s.all fun c => isPl c)) := by
 refine .top rfl (.eq (fun n => by rw [QiF]) ?_)
 refine Evt.diag (m := s.length) (QhW hs (P := fun p t n k => Qcn lb n k s (p.length : Int) = some (.bool (t.all fun c => isPl c))) ?_ ?_ s [] rfl)
 ·refine .all fun n k => ?_
  rw [QdY, decF (by omega), cond_false, Qho]
  rfl
 ·intro p c t hp hlt hat hw hev
  refine hev.imp2 (Qo8 lb c) fun n hn hc k hk => ?_
  rw [QdY]
  simp only [hlt, decide_true, cond_true, hat, QaP, hc, QaU, hw, List.all_cons]
  cases (isPl c)
  ·rfl
  ·simpa using hn k hk
theorem Qc1 (s : Bs) (hs : s.length ≤ 281474976710656) : Ret lb Qfz [.str s] (.bool (Qds s)) := by
 refine .top rfl (.eq (fun n => by rw [Qsy]) ?_)
 unfold Qds
 cases s with
 | nil => exact .done
 | cons c t =>
  simp only [show (c :: t == []) = false from rfl, Bool.not_false, cond_true, List.isEmpty_cons, Bool.true_and]
  exact .call (Qkx lb (c :: t) hs) .done
theorem Qsz (s : Bs) (hs : s.length ≤ 281474976710656) : Ret lb Qb4 [.str s] (.bool (Qds s)) := by
 refine .top rfl (.eq (fun n => by rw [Qtv]) ?_)
 refine Evt.diag (m := s.length) (QhW hs (P := fun p t n k => Qhb lb n k s (p.length : Int) = some (.bool (!s.isEmpty && t.all isPl))) ?_ ?_ s [] rfl)
 ·refine .all fun n k => ?_
  rw [Qi1, decF (by omega), cond_false, Qp3]
  cases s <;> rfl
 ·intro p c t hp hlt hat hw hev
  refine hev.mono fun n hn k hk => ?_
  have hn := hn k hk
  rw [← hw] at hn
  rw [Qi1]
  simp only [hlt, decide_true, cond_true, hat, QaP, List.all_cons]
  by_cases h1 : c.toNat < 33
  ·rw [decT (by omega), cond_true, show isPl c = false by simp [isPl]; omega]; simp
  rw [decF (by omega), cond_false]
  by_cases h2 : 126 < c.toNat
  ·rw [decT (by omega), cond_true, show isPl c = false by simp [isPl]; omega]; simp
  rw [decF (by omega), cond_false]
  by_cases h3 : c.toNat = 34
  ·rw [beqT (by omega), cond_true, show isPl c = false by simp [isPl, h3]]; simp
  rw [beqF (by omega), cond_false, show isPl c = true by simp [isPl, h3]; omega, Bool.true_and]
  exact hn
theorem Qkf (s : Bs) (m : Int) (hs : s.length ≤ 281474976710656) : Ret lb Qbr [.str s, .int .i64 m] (.bool (s.all isUp && ((s.length : Int) == m))) := by
 refine .top rfl (.eq (fun n => by rw [Qra]) ?_)
 refine Evt.diag (m := s.length) (QhW hs (P := fun p t n k => QfS lb n k s m (p.length : Int) = some (.bool (t.all isUp && ((s.length : Int) == m)))) ?_ ?_ s [] rfl)
 ·refine .all fun n k => ?_
  rw [Qhq, decF (by omega), cond_false, Qn6]
  rfl
 ·intro p c t hp hlt hat hw hev
  refine hev.imp2 (Qd0 lb c) fun n hn hc k hk => ?_
  rw [Qhq]
  simp only [hlt, decide_true, cond_true, hat, QaP, hc, QaU, hw, List.all_cons]
  cases isUp c
  ·rfl
  ·simpa using hn k hk
def Qdl (s : Bs) : Bool := decide (s.length = 3) && s.all isUp
def Qdq (s : Bs) : Bool := decide (s.length = 1) && s.all isUp
theorem QjG (s : Bs) (hs : s.length ≤ 281474976710656) : Ret lb QfK [.str s] (.bool (Qdl s)) := by
 refine .top rfl (.eq (fun n => by rw [QpP]) ?_)
 unfold Qdl
 by_cases h : s.length = 3
 ·simp only [beqT (show (s.length : Int) = 3 by omega), cond_true, h, decide_true, Bool.true_and]
  exact .call (Qf0 lb s hs) .done
 ·simp only [beqF (show (s.length : Int) ≠ 3 by omega), cond_false, h, decide_false, Bool.false_and]
  exact .of trivial
theorem Qq6 (s : Bs) : Ret lb QjC [.str s] (.bool (Qdq s)) := by
 refine .top rfl (.eq (fun n => by rw [QsJ]) ?_)
 unfold Qdq
 match s with
 | [c] =>
  simp only [beqT (show ((([c] : Bs).length : Int)) = 1 from rfl), cond_true, show atS [c] 0 = some c from rfl, QaP]
  refine .call (Qgs lb c) ?_
  exact .of (by simp)
 | [] => exact .done
 | c :: d :: t =>
  simp only [beqF (show (((c :: d :: t : Bs).length : Int)) ≠ 1 by simp only [List.length_cons]; omega), cond_false]
  exact .of (by simp)
theorem Qke (s : Bs) (hs : s.length ≤ 281474976710656) : Ret lb Qgd [.str s] (.bool (Qdl s)) := by
 refine .top rfl (.eq (fun n => by rw [QrA]) ?_)
 refine .call (Qkf lb s 3 hs) ?_
 refine .of ?_
 unfold Qdl
 rw [Bool.and_comm, show decide (s.length = 3) = ((s.length : Int) == 3) by
  by_cases h : s.length = 3
  ·rw [beqT (by omega), decT h]
  ·rw [beqF (by omega), decF h]]
theorem QsF (s : Bs) (hs : s.length ≤ 281474976710656) : Ret lb Qkw [.str s] (.bool (Qdq s)) := by
 refine .top rfl (.eq (fun n => by rw [Quv]) ?_)
 refine .call (Qkf lb s 1 hs) ?_
 refine .of ?_
 unfold Qdq
 rw [Bool.and_comm, show decide (s.length = 1) = ((s.length : Int) == 1) by
  by_cases h : s.length = 1
  ·rw [beqT (by omega), decT h]
  ·rw [beqF (by omega), decF h]]
def isCd (c : UInt8) : Bool := isUp c || isDg c
def Qb7 (s : Bs) (a b : Int) : Bool := decide ((s.length : Int) ≥ a) && (decide ((s.length : Int) ≤ b) && s.all isCd)
theorem Qgf (s : Bs) (a b : Int) (hs : s.length ≤ 281474976710656) : Ret lb QeS [.str s, .int .i64 a, .int .i64 b] (.bool (Qb7 s a b)) := by
 refine .top rfl (.eq (fun n => by rw [Qt9]) ?_)
 unfold Qb7
 cases decide ((s.length : Int) ≥ a)
 ·exact .done
 cases decide ((s.length : Int) ≤ b)
 ·exact .done
 exact .call (QkM lb s hs) .done
theorem QgW (s : Bs) (a b : Int) (hs : s.length ≤ 281474976710656) : Ret lb QbL [.str s, .int .i64 a, .int .i64 b] (.bool (Qb7 s a b)) := by
 refine .top rfl (.eq (fun n => by rw [Qu7]) ?_)
 unfold Qb7
 refine Evt.diag (m := s.length) (QhW hs (P := fun p t n k => r01_Code_L1 lb n k s a b (p.length : Int) = some (.bool (decide ((s.length : Int) ≥ a) && (decide ((s.length : Int) ≤ b) && t.all isCd)))) ?_ ?_ s [] rfl)
 ·refine .all fun n k => ?_
  rw [QjP, decF (by omega), cond_false, QrB]
  cases decide ((s.length : Int) ≥ a) <;> simp
 ·intro p c t hp hlt hat hw hev
  refine (hev.and (QsS lb c)).imp2 (Qd0 lb c) fun n ⟨hn, hd⟩ hc k hk => ?_
  have hn := hn k hk
  rw [QjP]
  simp only [hlt, decide_true, cond_true, hat, QaP, hc, hd, QaU, hw, List.all_cons, isCd] at hn ⊢
  cases isUp c
  ·cases isDg c
   ·simp
   ·simpa using hn
  ·simpa using hn
def QgA (s : Bs) : Bool := Qb7 s 2 2 && !s.all isDg
theorem QoT (s : Bs) (hs : s.length ≤ 281474976710656) : Ret lb Qhx [.str s] (.bool (QgA s)) := by
 refine .top rfl (.eq (fun n => by rw [Qpn]) ?_)
 refine .call (Qgf lb s 2 2 hs) ?_
 simp only [QaP, QaU]
 unfold QgA
 cases Qb7 s 2 2
 ·exact .done
 ·simp only [cond_true, Bool.true_and]
  exact .call (QgX lb s hs) .done
theorem Qzb (c : UInt8) (h : isCd c = true) : isDg c = !isUp c := by
 revert h; revert c; refine QeI ?_; decide +kernel
theorem QpE (s : Bs) (hs : s.length ≤ 281474976710656) : Ret lb QiJ [.str s] (.bool (QgA s)) := by
 refine .top rfl (.eq (fun n => by rw [Qq4]) ?_)
 refine .call (QgW lb s 2 2 hs) ?_
 simp only [QaP, QaU]
 unfold QgA
 cases h : Qb7 s 2 2
 ·exact .done
 ·simp only [cond_true, Bool.true_and]
  unfold Qb7 at h
  simp only [Bool.and_eq_true, decide_eq_true_eq] at h
  obtain ⟨h1, h2, h3⟩ := h
  match s, h1, h2, h3 with
  | [x, y], _, _, h3 =>
   simp only [List.all_cons, List.all_nil, Bool.and_true, Bool.and_eq_true] at h3
   simp only [show atS [x, y] 0 = some x from rfl, show atS [x, y] 1 = some y from rfl, QaP, List.all_cons, List.all_nil, Bool.and_true, Qzb x h3.1, Qzb y h3.2]
   refine .call (Qd0 lb x) ?_
   simp only [QaP, QaU]
   cases isUp x
   ·simp only [cond_false]
    refine .call (Qd0 lb y) ?_
    exact .of (by simp)
   ·exact .done
  | [], h1, h2, _ => simp at h1
  | [x], h1, h2, _ => simp at h1
  | x :: y :: z :: r, h1, h2, _ => simp at h2; omega
end Go.Proofs
set_option linter.unusedSimpArgs false
namespace Go.Proofs
open Go.Am
variable (lb : Nat)
def hxV (c : UInt8) : Int := match hexV c with
 | some n => n
 | none => -1
theorem Qxz (c : UInt8) : Lib.indexByte [48, 49, 50, 51, 52, 53, 54, 55, 56, 57, 97, 98, 99, 100, 101, 102] c = hxV c := by
 revert c; refine QeI ?_; decide +kernel
theorem Qt6 (c : UInt8) : Ret lb QbO [.str [48, 49, 50, 51, 52, 53, 54, 55, 56, 57, 97, 98, 99, 100, 101, 102], .int .u8 (c.toNat : Int)] (.int .i64 (hxV c)) := by
 refine .lib rfl ?_
 simp only [Qgg, Int.toNat_natCast]
 rw [show c.toNat.toUInt8 = c from by simp, Qxz]
theorem Qsa (c : UInt8) : (hexV c = none ∧ hxV c = -1) ∨ ∃ n, hexV c = some n ∧ n < 16 ∧ hxV c = n := by
 cases h : hexV c with
 | none => exact .inl ⟨rfl, by simp [hxV, h]⟩
 | some n => exact .inr ⟨n, rfl, (Qih h).2, by simp [hxV, h]⟩
theorem QA9 : ∀ a, a < 16 → ∀ b, b < 16 → IntKind.wrap .u8 (IntKind.wrap .i64 ((BitVec.ofInt 64 (IntKind.wrap .i64 ((a : Nat) * 2 ^ 4)) ||| BitVec.ofInt 64 (b : Nat)).toNat)) = ((16 * a + b : Nat) : Int) := by decide +kernel
def escR (t : Bs) : Nat × Nat := match t with
 | [] => (0, 0)
 | d :: r => if d.toNat = 34 ∨ d.toNat = 92 then (d.toNat, 1) else if d.toNat = 120 then
   match r with
   | h :: l :: _ => match hexV h, hexV l with
    | some a, some b => if 32 ≤ 16 * a + b ∧ 16 * a + b ≤ 126 then (0, 0) else (16 * a + b, 3)
    | _, _ => (0, 0)
   | _ => (0, 0)
  else (0, 0)
theorem Qyh (t : Bs) : (escR t).2 ≤ t.length ∧ (escR t).2 ≤ 3 ∧ (escR t).1 < 256 := by
 unfold escR
 split
 ·simp
 rename_i d r
 have := d.toNat_lt
 split
 ·exact ⟨by simp, by simp, by simpa using this⟩
 split
 ·split
  ·split
   ·rename_i a b ha hb
    have := (Qih ha).2
    have := (Qih hb).2
    split
    ·simp
    ·exact ⟨by simp only [List.length_cons]; omega, by simp, by simp only; omega⟩
   ·simp
  ·simp
 ·simp
theorem Qzk (r : Bs) : unqI (92 :: r) = if (escR r).2 = 0 then none else (unqI (r.drop (escR r).2)).map (UInt8.ofNat (escR r).1 :: ·) := by
 rw [Qfy, if_neg (by decide), if_pos (by decide)]
 match r with
 | [] => simp [escR]
 | d :: r' =>
  simp only [escR]
  by_cases h1 : d.toNat = 34 ∨ d.toNat = 92
  ·simp [h1]
  ·simp only [h1, if_false]
   by_cases h2 : d.toNat = 120
   ·simp only [h2, if_true]
    match r' with
    | [] => simp
    | [x] => simp
    | x :: y :: r'' =>
     simp only
     cases hx : hexV x with
     | none => simp
     | some a =>
      cases hy : hexV y with
      | none => simp
      | some b =>
       simp only
       by_cases h3 : 32 ≤ 16 * a + b ∧ 16 * a + b ≤ 126
       ·simp [h3]
       ·simp [h3]
   ·simp [h2]
theorem Qj7 (t : Bs) (ht : t.length ≤ 1000000000) : Ret lb QiA [.str t] (.tup [.int .u8 ((escR t).1 : Int), .int .i64 ((escR t).2 : Int)]) := by
 refine .top rfl (.eq (fun n => by rw [Qrq]) ?_)
 match t, ht with
 | [], _ => exact .done
 | d :: r, ht =>
  simp only [show (d :: r == ([] : Bs)) = false from rfl, cond_false, show atS (d :: r) 0 = some d from rfl, QaP]
  unfold escR
  by_cases h1 : d.toNat = 34
  ·simp only [beqT (show (d.toNat : Int) = 34 by omega), cond_true]
   simp only [h1, true_or, if_true]
   refine .of ?_; first | rfl | simp
  simp only [beqF (show (d.toNat : Int) ≠ 34 by omega), cond_false]
  by_cases h2 : d.toNat = 92
  ·simp only [beqT (show (d.toNat : Int) = 92 by omega), cond_true]
   simp only [h2, or_true, if_true]
   refine .of ?_; first | rfl | simp
  simp only [beqF (show (d.toNat : Int) ≠ 92 by omega), cond_false, h1, h2, or_self, if_false]
  by_cases h3 : d.toNat = 120
  ·simp only [bneF (show (d.toNat : Int) = 120 by omega), cond_false]
   simp only [h3, if_true]
   match r, ht with
   | [], _ => exact .of rfl
   | [x], _ => exact .of rfl
   | x :: y :: r', _ =>
    simp only [decF (show ¬ ((d :: x :: y :: r' : Bs).length : Int) < 3 by simp only [List.length_cons]; omega), cond_false, show atS (d :: x :: y :: r') 1 = some x from rfl, show atS (d :: x :: y :: r') 2 = some y from rfl, QaP]
    refine .call (Qt6 lb x) ?_
    refine .call (Qt6 lb y) ?_
    simp only [QaP, Qae]
    rcases Qsa x with ⟨hx, ex⟩ | ⟨a, hx, ha, ex⟩
    ·simp only [hx, ex]
     refine .of ?_; first | rfl | simp
    rcases Qsa y with ⟨hy, ey⟩ | ⟨b, hy, hb, ey⟩
    ·simp only [hx, hy, ex, ey, decF (show ¬ (a : Int) < 0 by omega), cond_false]
     refine .of ?_; first | rfl | simp
    simp only [hx, hy, ex, ey, decF (show ¬ (a : Int) < 0 by omega), decF (show ¬ (b : Int) < 0 by omega), cond_false, QA9 a ha b hb]
    by_cases h4 : 32 ≤ 16 * a + b
    ·rw [decT (show ((16 * a + b : Nat) : Int) ≥ 32 by omega), cond_true]
     by_cases h5 : 16 * a + b ≤ 126
     ·rw [decT (show ((16 * a + b : Nat) : Int) ≤ 126 by omega), cond_true, if_pos ⟨h4, h5⟩]
      exact .of rfl
     ·rw [decF (show ¬ ((16 * a + b : Nat) : Int) ≤ 126 by omega), cond_false, if_neg (by omega)]
      exact .of rfl
    ·rw [decF (show ¬ ((16 * a + b : Nat) : Int) ≥ 32 by omega), cond_false, if_neg (by omega)]
     exact .of rfl
  ·simp only [bneT (show (d.toNat : Int) ≠ 120 by omega), cond_true, h3, if_false]
   refine .of ?_; first | rfl | simp
def unqR (o : Option Bs) : CV := match o with
 | some b => .tup [.str b, .int .i64 0]
 | none => .tup [.str [], .int .i64 3]
theorem Qph (s inner : Bs) (hs : inner.length ≤ 1000000000) (he : (s.take ((IntKind.wrap .i64 ((s.length : Int) - 1)).toNat)).drop 1 = inner) :
  ∀ (N : Nat) (t p b : Bs), t.length ≤ N → p ++ t = inner → b.length ≤ p.length → Evt fun n => ∀ k, t.length < k → Qea lb n k s (bcv b) (p.length : Int) = some (unqR ((unqI t).map (b ++ ·)))
 | N, [], p, b, hN, hp, hb => .all fun n k hk => by
  obtain ⟨k, rfl⟩ : ∃ m, k = m + 1 := ⟨k - 1, by simp at hk; omega⟩
  have : p = inner := by simpa using hp
  rw [QcF, he, decF (by rw [this]; omega), cond_false, Qnn, QeU]
  simp [QaP, unqR, unqI]
 | 0, c :: t, p, b, hN, _, _ => by simp at hN
 | N + 1, c :: t, p, b, hN, hp, hb => by
  have hl : inner.length = p.length + (t.length + 1) := by rw [← hp]; simp
  have hat : atS inner (p.length : Int) = some c := Qjv (by rw [← hp]; simp)
  have hlt : (p.length : Int) < (inner.length : Int) := by omega
  have hw : IntKind.wrap .i64 ((p.length : Int) + 1) = ((p ++ [c]).length : Int) := by rw [QaN (by omega) (by omega)]; simp
  have r1 : room ((bcv b).length + 1) 1 = true := Qbg (by rw [Qd1]; omega)
  by_cases hbad : c.toNat = 34 ∨ c.toNat < 32 ∨ 126 < c.toNat
  ·refine .all fun n k hk => ?_
   obtain ⟨k, rfl⟩ : ∃ m, k = m + 1 := ⟨k - 1, by simp at hk; omega⟩
   rw [QcF, he]
   simp only [hlt, decide_true, cond_true, hat, QaP, Qfy, hbad, if_true, Option.map_none, unqR]
   by_cases h1 : c.toNat = 34
   ·rw [beqT (by omega), cond_true]
   rw [beqF (by omega), cond_false]
   by_cases h2 : c.toNat < 32
   ·rw [decT (by omega), cond_true]
   rw [decF (by omega), cond_false, decT (by omega), cond_true]
  ·have hg : ∀ {x y : Option CV}, (bif ((c.toNat : Int) == 34) then x else bif (decide ((c.toNat : Int) < 32)) then x else bif (decide ((c.toNat : Int) > 126)) then x else y) = y := by
    intro x y
    rw [beqF (by omega), cond_false, decF (by omega), cond_false, decF (by omega), cond_false]
   by_cases h92 : c.toNat = 92
   ·have ec : c = 92 := Qdd h92
    have hr : (inner.take ((inner.length : Int)).toNat).drop ((p ++ [c]).length : Int).toNat = t := by
     rw [Int.toNat_natCast, Int.toNat_natCast, List.take_length, ← hp, show p ++ c :: t = (p ++ [c]) ++ t by simp, List.drop_left]
    obtain ⟨e1, e2, e3⟩ := Qyh t
    have hu := Qzk t
    by_cases h0 : (escR t).2 = 0
    ·refine (Qj7 lb t (by omega)).mono fun n hn k hk => ?_
     obtain ⟨k, rfl⟩ : ∃ m, k = m + 1 := ⟨k - 1, by simp at hk; omega⟩
     rw [QcF, he]
     simp only [hlt, decide_true, cond_true, hat, QaP, hg, beqT (show (c.toNat : Int) = 92 by omega), hw, hr, hn, Qg7, get0, get1, Qae]
     rw [decT (by simp; omega), Qbf, beqT (by omega), cond_true, ec, hu, if_pos h0]
     rfl
    ·have hd : (p ++ [c] ++ t.take (escR t).2) ++ t.drop (escR t).2 = inner := by
      rw [List.append_assoc, List.take_append_drop, ← hp]; simp
     have hlen : (p ++ [c] ++ t.take (escR t).2).length = p.length + 1 + (escR t).2 := by simp; omega
     refine (Qph s inner hs he N (t.drop (escR t).2) _ (b ++ [UInt8.ofNat (escR t).1]) (by simp at hN ⊢; omega) hd (by rw [hlen]; simp; omega)).imp2 (Qj7 lb t (by omega)) fun n hn hesc k hk => ?_
     obtain ⟨k, rfl⟩ : ∃ m, k = m + 1 := ⟨k - 1, by simp at hk; omega⟩
     have hn := hn k (by simp at hk ⊢; omega)
     rw [hlen] at hn
     rw [QcF, he]
     simp only [hlt, decide_true, cond_true, hat, QaP, hg, beqT (show (c.toNat : Int) = 92 by omega), hw, hr, hesc, Qg7, get0, get1, Qae, Qwb, r1, Qbf]
     rw [decT (by simp; omega), Qbf, beqF (by omega), cond_false, QaN (x := (p.length : Int) + ((escR t).2 : Int)) (by omega) (by omega), QaN (by omega) (by omega), ec, hu, if_neg h0]
     have e5 : bcv b ++ [[CV.int .u8 ((escR t).1 : Int)]] = bcv (b ++ [UInt8.ofNat (escR t).1]) := by
      simp [bcv, Nat.mod_eq_of_lt e3]
     rw [e5, show (p.length : Int) + ((escR t).2 : Int) + 1 = ((p.length + 1 + (escR t).2 : Nat) : Int) by omega, hn]
     cases unqI (t.drop (escR t).2) <;> simp
   ·have hd : (p ++ [c]) ++ t = inner := by rw [← hp]; simp
    refine (Qph s inner hs he N t (p ++ [c]) (b ++ [c]) (by simp at hN; omega) hd (by simp; omega)).mono fun n hn k hk => ?_
    obtain ⟨k, rfl⟩ : ∃ m, k = m + 1 := ⟨k - 1, by simp at hk; omega⟩
    have hn := hn k (by simp at hk; omega)
    rw [QcF, he]
    simp only [hlt, decide_true, cond_true, hat, QaP, hg, beqF (show (c.toNat : Int) ≠ 92 by omega), cond_false, r1, Qbf, hw]
    rw [show bcv b ++ [[CV.int .u8 (c.toNat : Int)]] = bcv (b ++ [c]) by simp [bcv], hn, Qfy, if_neg hbad, if_neg h92]
    cases unqI t <;> simp
theorem QgF (s : Bs) (hs : s.length ≤ 1000000000) : Ret lb Qbq [.str s] (unqR (unq s)) := by
 refine .top rfl (.eq (fun n => by rw [QpR]) ?_)
 unfold unq
 by_cases h2 : s.length < 2
 ·rw [if_neg (by omega)]
  simp only [decT (show (s.length : Int) < 2 by omega), cond_true]
  exact .done
 simp only [decF (show ¬ (s.length : Int) < 2 by omega), cond_false]
 have hw : IntKind.wrap .i64 ((s.length : Int) - 1) = ((s.length - 1 : Nat) : Int) := by rw [QaN (by omega) (by omega)]; omega
 obtain ⟨x, hx⟩ : ∃ x, s[0]? = some x := ⟨s[0], List.getElem?_eq_getElem (by omega)⟩
 obtain ⟨y, hy⟩ : ∃ y, s[s.length - 1]? = some y := ⟨s[s.length - 1], List.getElem?_eq_getElem (by omega)⟩
 have hx' : atS s 0 = some x := Qjv (i := 0) hx
 have hy' : atS s ((s.length - 1 : Nat) : Int) = some y := Qjv hy
 have hh : s.head? = some x := by rw [List.head?_eq_getElem?]; exact hx
 have hg : s.getLast? = some y := by rw [List.getLast?_eq_getElem?]; exact hy
 rw [hh, hg]
 simp only [hx', QaP]
 by_cases h34 : x = 34
 ·simp only [bneF (show (x.toNat : Int) = 34 by rw [h34]; rfl), cond_false, hw, hy', QaP]
  by_cases h35 : y = 34
  ·rw [if_pos ⟨by omega, by rw [h34], by rw [h35]⟩]
   simp only [bneF (show (y.toNat : Int) = 34 by rw [h35]; rfl), cond_false]
   have hin : (s.take ((s.length - 1 : Nat) : Int).toNat).drop 1 = (s.take (s.length - 1)).drop 1 := by simp
   have hil : ((s.take (s.length - 1)).drop 1).length = s.length - 2 := by simp; omega
   refine .chk (decT ⟨by omega, by omega⟩) (.chk (decT ⟨by omega, by omega⟩) (.chk ?_ ?_))
   ·rw [hin, hil]; simp; omega
   ·have := Qph lb s ((s.take (s.length - 1)).drop 1) (by omega) (by rw [hw, hin]) _ _ [] [] (Nat.le_refl _) rfl (Nat.le_refl _)
    refine (Evt.diag this).mono fun n hn => Eq.trans hn ?_
    cases unqI ((s.take (s.length - 1)).drop 1) <;> simp
  ·rw [if_neg (by rintro ⟨_, _, q⟩; exact h35 (by simpa using q))]
   have : y.toNat ≠ 34 := fun q => h35 (Qdd q)
   simp only [bneT (show (y.toNat : Int) ≠ 34 by omega), cond_true]
   exact .done
 ·rw [if_neg (by rintro ⟨_, q, _⟩; exact h34 (by simpa using q))]
  have : x.toNat ≠ 34 := fun q => h34 (Qdd q)
  simp only [bneT (show (x.toNat : Int) ≠ 34 by omega), cond_true]
  exact .done
end Go.Proofs
set_option linter.unusedSimpArgs false
namespace Go.Proofs
open Go.Am
variable (lb : Nat)
end Go.Proofs
set_option linter.unusedSimpArgs false
namespace Go.Proofs
open Go.Am
variable (lb : Nat)
def Qa7 (l : List Bs) : Nat := (l.map List.length).sum
theorem Qee (w : Bs) (l : List Bs) : Qa7 (w :: l) = w.length + Qa7 l := by simp [Qa7]
theorem QqE (a b : List Bs) : Qa7 (a ++ b) = Qa7 a + Qa7 b := by simp [Qa7]
theorem Qi5 {w : Bs} : ∀ {l : List Bs}, w ∈ l → w.length ≤ Qa7 l
 | [], h => by cases h
 | x :: l, h => by
  rw [Qee]
  rcases List.mem_cons.1 h with rfl | h
  ·omega
  ·have := Qi5 h; omega
theorem Qj0 : ∀ l : List Bs, (QaO l).length ≤ 4 * Qa7 l + 3 * l.length
 | [] => by simp [QaO]
 | [w] => by
  have := Qiq w
  simp only [QaO, Qee, List.length_cons, List.length_nil]; omega
 | w :: x :: r => by
  have := Qiq w
  have := Qj0 (x :: r)
  rw [QeE w (by simp), Qee]
  simp only [List.length_append, List.length_cons] at this ⊢; omega
def cutR (ps : List Bs) (o : Option (List Bs)) : CV := match o with
 | some l => .tup [.list false (scv (ps ++ l)), .bool true]
 | none => .tup [.list true [], .bool false]
theorem QxT (s : Bs) {i : Nat} {c : UInt8} (h : s[i]? = some c) : (c.toNat < 128 → Utf8.decode ⟨s.toArray⟩ i = (c.toNat, 1)) ∧ (128 ≤ c.toNat → 126 < (Utf8.decode ⟨s.toArray⟩ i).1) := by
 obtain ⟨hl, hc⟩ := List.getElem?_eq_some_iff.1 h
 have hsz : i < (⟨s.toArray⟩ : ByteArray).size := by simpa [ByteArray.size] using hl
 have hg : ((⟨s.toArray⟩ : ByteArray)[i]'hsz) = c := hc
 refine ⟨fun q => ?_, fun q => ?_⟩
 ·rw [decode_ascii _ _ hsz (by rw [hg]; exact q), hg]
 ·have := (decode_high ⟨s.toArray⟩ i hsz (by rw [hg]; exact q)).1
  omega
theorem QoR (s : Bs) (hs : s.length ≤ 1000000000) : ∀ (t A cur : Bs) (ps : List Bs) (bn q e : Bool), A ++ cur ++ t = s → ps.length ≤ A.length →
  Evt fun n => ∀ k, t.length < k → Qbo lb n k s bn (scv ps) (A.length : Int) q e (A ++ cur).length = some (cutR ps (cutB t cur q e))
 | [], A, cur, ps, bn, q, e, h, hp => .all fun n k hk => by
  obtain ⟨k, rfl⟩ : ∃ m, k = m + 1 := ⟨k - 1, by simp at hk; omega⟩
  have hsA : A ++ cur = s := by simpa using h
  have hl : s.length = A.length + cur.length := by rw [← hsA, List.length_append]
  rw [Qcs, decF (by rw [hsA]; omega), cond_false, Qrz, decT ⟨by omega, by omega⟩, Qbf, Qbg (by rw [QcZ]; omega), Qbf]
  have e1 : (s.take ((s.length : Int)).toNat).drop ((A.length : Int)).toNat = cur := by
   rw [Int.toNat_natCast, Int.toNat_natCast, List.take_length, ← hsA, List.drop_left]
  rw [e1, Bool.and_false]
  simp [cutR, cutB, scv]
 | c :: t, A, cur, ps, bn, q, e, h, hp => by
  have hl : s.length = A.length + cur.length + (t.length + 1) := by rw [← h]; simp only [List.length_append, List.length_cons]
  have hat : s[(A ++ cur).length]? = some c := by rw [← h]; simp
  have hlt : (A ++ cur).length < s.length := by rw [List.length_append]; omega
  obtain ⟨d1, d2⟩ := QxT s hat
  have hnext : (A ++ (cur ++ [c])) ++ t = s := by rw [← h]; simp
  by_cases hbad : c.toNat < 32 ∨ 126 < c.toNat
  ·refine .all fun n k hk => ?_
   obtain ⟨k, rfl⟩ : ∃ m, k = m + 1 := ⟨k - 1, by simp at hk; omega⟩
   rw [Qcs, decT hlt, cond_true, cutB, if_pos hbad]
   by_cases h1 : c.toNat < 128
   ·rw [d1 h1]
    rcases hbad with h2 | h2
    ·rw [decT (show ((c.toNat : Nat) : Int) < 32 by omega), cond_true]; rfl
    ·rw [decF (show ¬ ((c.toNat : Nat) : Int) < 32 by omega), cond_false, decT (show ((c.toNat : Nat) : Int) > 126 by omega), cond_true]; rfl
   ·have h3 := d2 (by omega)
    rw [decF (show ¬ (((Utf8.decode ⟨s.toArray⟩ (A ++ cur).length).1 : Nat) : Int) < 32 by omega), cond_false, decT (show (((Utf8.decode ⟨s.toArray⟩ (A ++ cur).length).1 : Nat) : Int) > 126 by omega), cond_true]; rfl
  have hd := d1 (by omega)
  have hpos : (A ++ cur).length + 1 = (A ++ (cur ++ [c])).length := by simp; omega
  have hg : ∀ {x y : Option CV}, (bif decide (((c.toNat : Nat) : Int) < 32) then x else bif decide (((c.toNat : Nat) : Int) > 126) then x else y) = y := by
   intro x y
   rw [decF (by omega), cond_false, decF (by omega), cond_false]
  have step : ∀ q' e', cutB (c :: t) cur q e = cutB t (cur ++ [c]) q' e' →
    (∀ n k, Qbo lb n (k + 1) s bn (scv ps) (A.length : Int) q e (A ++ cur).length = Qbo lb n k s bn (scv ps) (A.length : Int) q' e' ((A ++ cur).length + 1)) →
    Evt fun n => ∀ k, (c :: t).length < k → Qbo lb n k s bn (scv ps) (A.length : Int) q e (A ++ cur).length = some (cutR ps (cutB (c :: t) cur q e)) := by
   intro q' e' h1 h2
   refine (QoR s hs t A (cur ++ [c]) ps bn q' e' hnext hp).mono fun n hn k hk => ?_
   obtain ⟨k, rfl⟩ : ∃ m, k = m + 1 := ⟨k - 1, by simp at hk; omega⟩
   rw [h2, h1, hpos]
   exact hn k (by simp at hk; omega)
  cases e with
  | true =>
   refine step q false (by rw [cutB, if_neg hbad, if_pos rfl]) fun n k => ?_
   rw [Qcs, decT hlt, cond_true, hd, hg, cond_true]
  | false =>
   by_cases h92 : q = true ∧ c.toNat = 92
   ·obtain ⟨rfl, h92⟩ := h92
    refine step true true (by rw [cutB, if_neg hbad, if_neg (by decide), if_pos ⟨rfl, h92⟩]) fun n k => ?_
    rw [Qcs, decT hlt, cond_true, hd, hg, cond_false, cond_true, beqT (show ((c.toNat : Nat) : Int) = 92 by omega), cond_true]
   by_cases h34 : c.toNat = 34
   ·refine step (!q) false (by rw [cutB, if_neg hbad, if_neg (by decide), if_neg h92, if_pos h34]) fun n k => ?_
    rw [Qcs, decT hlt, cond_true, hd, hg, cond_false, beqF (show ((c.toNat : Nat) : Int) ≠ 92 by omega), beqT (show ((c.toNat : Nat) : Int) = 34 by omega)]
    cases q <;> rfl
   by_cases h32 : c.toNat = 32 ∧ (!q) = true
   ·obtain ⟨h32, hq⟩ := h32
    have hq : q = false := by simpa using hq
    subst hq
    refine (QoR s hs t (A ++ (cur ++ [c])) [] (ps ++ [cur]) false false false (by rw [List.append_nil]; exact hnext) (by simp; omega)).mono fun n hn k hk => ?_
    obtain ⟨k, rfl⟩ : ∃ m, k = m + 1 := ⟨k - 1, by simp at hk; omega⟩
    have hn := hn k (by simp at hk; omega)
    rw [Qcs, decT hlt, cond_true, hd, hg, cond_false, cond_false, beqF (show ((c.toNat : Nat) : Int) ≠ 34 by omega), cond_false, beqT (show ((c.toNat : Nat) : Int) = 32 by omega), cond_true, Bool.not_false, cond_true,
     decT ⟨by omega, by omega⟩, Qbf, decT ⟨by omega, by rw [List.length_append]; omega⟩, Qbf, Qbg (by rw [QcZ]; omega), Qbf, QaN (by omega) (by omega)]
    have e1 : (s.take (((A ++ cur).length : Int)).toNat).drop ((A.length : Int)).toNat = cur := by
     rw [Int.toNat_natCast, Int.toNat_natCast, ← h, List.take_left, List.drop_left]
    rw [e1, Bool.and_false, hpos, show (((A ++ cur).length : Int) + 1) = ((A ++ (cur ++ [c])).length : Int) by rw [← hpos]; omega, show scv ps ++ [[CV.str cur]] = scv (ps ++ [cur]) by simp [scv]]
    rw [List.append_nil] at hn
    rw [hn, cutB, if_neg hbad, if_neg (by decide), if_neg (by simp), if_neg h34, if_pos ⟨h32, rfl⟩]
    cases cutB t [] false false <;> simp [cutR]
   ·refine step q false (by rw [cutB, if_neg hbad, if_neg (by decide), if_neg h92, if_neg h34, if_neg h32]) fun n k => ?_
    rw [Qcs, decT hlt, cond_true, hd, hg, cond_false]
    cases q with
    | true =>
     have h92' : c.toNat ≠ 92 := fun x => h92 ⟨rfl, x⟩
     rw [cond_true, beqF (show ((c.toNat : Nat) : Int) ≠ 92 by omega), cond_false, beqF (show ((c.toNat : Nat) : Int) ≠ 34 by omega), cond_false, Bool.not_true]
     cases ((c.toNat : Nat) : Int) == 32 <;> rfl
    | false =>
     have h32' : c.toNat ≠ 32 := fun x => h32 ⟨x, rfl⟩
     rw [cond_false, beqF (show ((c.toNat : Nat) : Int) ≠ 34 by omega), cond_false, beqF (show ((c.toNat : Nat) : Int) ≠ 32 by omega), cond_false]
theorem Qtr (s : Bs) (hs : s.length ≤ 1000000000) : Ret lb Qck [.str s] (cutR [] (cutB s [] false false)) := by
 refine .top rfl (.eq (fun n => by rw [Qu3]) ?_)
 exact Evt.diag (QoR lb s hs s [] [] [] true false false rfl (Nat.le_refl _))
def QkN (bn : Bool) (o : Option (List Bs)) : CV := match o with
 | some l => .tup [.list bn (scv l), .int .i64 0]
 | none => .tup [.list true [], .int .i64 3]
theorem Qkt (s : Bs) (x4 x6 r2 : CV) (p9 : Bool × List (List CV)) (ps : List Bs) (b4 b10 : Bool) (hx : x4 = .list b4 (scv ps)) (hsum : ∀ p ∈ ps, p.length ≤ 1000000000) (hps : ps.length ≤ 1000000000) :
  ∀ t p, p ++ t = ps → ∀ out : List Bs, out.length ≤ p.length → Evt fun n => ∀ k, t.length < k → QeH lb n k s x4 x6 r2 p9 (b10, scv ps) (scv out) (p.length : Int) = some (QkN false ((t.mapM Qe7).map (out ++ ·)))
 | [], p, h, out, ho => .all fun n k hk => by
  obtain ⟨k, rfl⟩ : ∃ m, k = m + 1 := ⟨k - 1, by simp at hk; omega⟩
  have : p = ps := by simpa using h
  rw [Qdc, decF (by rw [this, QcZ]; omega), cond_false, Qpd]
  simp [QkN]
 | w :: t, p, h, out, ho => by
  have hl : ps.length = p.length + (t.length + 1) := by rw [← h]; simp
  have hat : atL (scv ps) (p.length : Int) = some [.str w] := Qcv (Qrb (by rw [← h]; simp))
  have hw : w.length ≤ 1000000000 := hsum w (by rw [← h]; simp)
  have hnext : (p ++ [w]) ++ t = ps := by rw [← h]; simp
  have hlt : (p.length : Int) < ((scv ps).length : Int) := by rw [QcZ]; omega
  have hwr : IntKind.wrap .i64 ((p.length : Int) + 1) = ((p ++ [w]).length : Int) := by rw [QaN (by omega) (by omega)]; simp
  have r1 : room ((scv out).length + 1) 16 = true := Qbg (by rw [QcZ]; omega)
  rw [List.mapM_cons]
  cases hpl : Qds w with
  | true =>
   refine (Qkt s x4 x6 r2 p9 ps b4 b10 hx hsum hps t (p ++ [w]) hnext (out ++ [w]) (by simp; omega)).imp2 (Qc1 lb w (Nat.le_trans hw (by decide))) fun n hn h1 k hk => ?_
   obtain ⟨k, rfl⟩ : ∃ m, k = m + 1 := ⟨k - 1, by simp at hk; omega⟩
   have hn := hn k (by simp at hk; omega)
   rw [Qdc]
   simp only [decT hlt, cond_true, hx, Qlw, QaP, hat, List.length_cons, List.length_nil, Nat.zero_add, beq_self_eq_true, Qbf, get0, h1, QaU, hpl, Bool.not_true, cond_false, Qli, r1, hwr]
   rw [← hx, show scv out ++ [[CV.str w]] = scv (out ++ [w]) by simp [scv], hn]
   simp only [Qe7, hpl, if_true]
   cases t.mapM Qe7 <;> simp
  | false =>
   have hr : Qe7 w = match unq w with
     | some t => if Qds t then none else some t
     | none => none := by unfold Qe7; rw [hpl]; rfl
   cases hu : unq w with
   | none =>
    refine (QgF lb w hw).imp2 (Qc1 lb w (Nat.le_trans hw (by decide))) fun n h2 h1 k hk => ?_
    obtain ⟨k, rfl⟩ : ∃ m, k = m + 1 := ⟨k - 1, by simp at hk; omega⟩
    rw [Qdc]
    simp only [decT hlt, cond_true, hx, Qlw, QaP, hat, List.length_cons, List.length_nil, Nat.zero_add, beq_self_eq_true, Qbf, get0, get1, h1, h2, hu, unqR, Qg7, Qae, QaU, hpl, Bool.not_false]
    rw [hr, hu]
    rfl
   | some v =>
    have hv : v.length ≤ 1000000000 := by have := QnR v; rw [← Qti hu] at this; omega
    cases hpv : Qds v with
    | true =>
     refine ((QgF lb w hw).and (Qc1 lb v (Nat.le_trans hv (by decide)))).imp2 (Qc1 lb w (Nat.le_trans hw (by decide))) fun n ⟨h2, h3⟩ h1 k hk => ?_
     obtain ⟨k, rfl⟩ : ∃ m, k = m + 1 := ⟨k - 1, by simp at hk; omega⟩
     rw [Qdc]
     simp only [decT hlt, cond_true, hx, Qlw, QaP, hat, List.length_cons, List.length_nil, Nat.zero_add, beq_self_eq_true, Qbf, get0, get1, h1, h2, h3, hu, hpv, unqR, Qg7, Qae, QaU, hpl, Bool.not_false, bne_self_eq_false, cond_false]
     rw [hr, hu]
     simp [hpv, QkN]
    | false =>
     refine ((Qkt s x4 x6 r2 p9 ps b4 b10 hx hsum hps t (p ++ [w]) hnext (out ++ [v]) (by simp; omega)).and (QgF lb w hw)).imp2 ((Qc1 lb w (Nat.le_trans hw (by decide))).and (Qc1 lb v (Nat.le_trans hv (by decide)))) fun n ⟨hn, h2⟩ ⟨h1, h3⟩ k hk => ?_
     obtain ⟨k, rfl⟩ : ∃ m, k = m + 1 := ⟨k - 1, by simp at hk; omega⟩
     have hn := hn k (by simp at hk; omega)
     rw [Qdc]
     simp only [decT hlt, cond_true, hx, Qlw, QaP, hat, List.length_cons, List.length_nil, Nat.zero_add, beq_self_eq_true, Qbf, get0, get1, h1, h2, h3, hu, hpv, unqR, Qg7, Qae, QaU, hpl, Bool.not_false, bne_self_eq_false, cond_false, Qli, r1, hwr]
     rw [← hx, show scv out ++ [[CV.str v]] = scv (out ++ [v]) by simp [scv], hn, hr, hu]
     simp only [hpv]
     cases t.mapM Qe7 <;> simp
theorem Qs8 : ∀ ps : List Bs, Qa7 ps ≤ (Lib.join ps [32]).length ∧ ps.length ≤ (Lib.join ps [32]).length + 1
 | [] => by simp [Qa7, Lib.join]
 | [w] => by simp [Qa7, Lib.join]
 | w :: x :: r => by
  have := Qs8 (x :: r)
  have e : Lib.join (w :: x :: r) [32] = w ++ 32 :: Lib.join (x :: r) [32] := by simp [Lib.join, List.intercalate]
  rw [e, Qee]
  simp only [List.length_append, List.length_cons] at this ⊢
  omega
theorem Qa0 (s : Bs) (hs : s.length ≤ 100000000) : Ret lb Qa4 [.str s] (QkN s.isEmpty (QbS s)) := by
 refine .top rfl (.eq (fun n => by rw [QsZ]) ?_)
 by_cases h0 : s = []
 ·subst h0; exact .done
 rw [show s.isEmpty = false by simpa using h0]
 simp only [show (s == []) = false by simpa using h0, cond_false]
 refine .call (Qtr lb s (by omega)) ?_
 unfold QbS
 rw [if_neg h0]
 cases hc : cutB s [] false false with
 | none =>
  simp only [cutR, Qg7, get0, get1, QaP, QaU, Bool.not_false, cond_true]
  exact .of rfl
 | some ps =>
  simp only [cutR, List.nil_append, Qg7, get0, get1, QaP, QaU, Bool.not_true, cond_false, Qlw, QcZ]
  obtain ⟨h1, h2⟩ := Qkm hc
  have h3 := Qs8 ps
  rw [h2] at h3
  simp only [List.nil_append] at h3
  refine .chk ?_ ?_
  ·simp; omega
  ·refine (Evt.diag (Qkt lb s (.list false (scv ps)) _ _ _ ps false false rfl (fun p hp => by have := Qi5 hp; omega) (by omega) ps [] rfl [] (Nat.le_refl _))).mono fun n hn => Eq.trans hn ?_
   rw [Option.bind_some]
   cases ps.mapM Qe7 <;> simp
theorem Qpy (an : Bool) (l : List Bs) (hl : l.length ≤ 1000000000) (hm : ∀ w ∈ l, w.length ≤ 1000000000) :
  ∀ t p, p ++ t = l → Evt fun n => ∀ k, t.length < k → Qel lb n k an (scv l) (scv (p.map Qby)) (p.length : Int) = Qg2 lb n an (scv l) false (scv (l.map Qby))
 | [], p, h => .all fun n k hk => by
  obtain ⟨k, rfl⟩ : ∃ m, k = m + 1 := ⟨k - 1, by simp at hk; omega⟩
  have : p = l := by simpa using h
  rw [QiZ, decF (by rw [this, QcZ]; omega), cond_false, this]
 | w :: t, p, h => by
  have hll : l.length = p.length + (t.length + 1) := by rw [← h]; simp
  have hat : atL (scv l) (p.length : Int) = some [.str w] := Qcv (Qrb (by rw [← h]; simp))
  have hw := hm w (by rw [← h]; simp)
  refine (Qpy an l hl hm t (p ++ [w]) (by rw [← h]; simp)).imp2 ((Qc1 lb w (Nat.le_trans hw (by decide))).and (Qrl lb w hw)) fun n hn ⟨h1, h2⟩ k hk => ?_
  obtain ⟨k, rfl⟩ : ∃ m, k = m + 1 := ⟨k - 1, by simp at hk; omega⟩
  have hn := hn k (by simp at hk; omega)
  have r1 : room ((scv (p.map Qby)).length + 1) 16 = true := Qbg (by rw [QcZ, List.length_map]; omega)
  rw [QiZ]
  simp only [decT (show (p.length : Int) < ((scv l).length : Int) by rw [QcZ]; omega), cond_true, hat, QaP, List.length_cons, List.length_nil, Nat.zero_add, beq_self_eq_true, Qbf, get0, h1, h2, QaU, Qli, r1,
   QaN (x := (p.length : Int) + 1) (by omega) (by omega)]
  rw [show (p.length : Int) + 1 = ((p ++ [w]).length : Int) by simp]
  rw [← hn]
  cases hp : Qds w
  ·simp [Qby, hp, scv]
  ·simp [Qby, hp, scv]
theorem Qge (an : Bool) (l : List Bs) (hl : l.length ≤ 100000000) (hm : Qa7 l ≤ 100000000) : Ret lb QbA [.list an (scv l)] (.str (QaO l)) := by
 refine .top rfl (.eq (fun n => by rw [QtL]) ?_)
 refine .chk (by simp [QcZ]; omega) ?_
 refine (Evt.diag (m := l.length) (P := fun n k => Qel lb n k an (scv l) [] 0 = Qg2 lb n an (scv l) false (scv (l.map Qby))) (Qpy lb an l (by omega) (fun w hw => by have := Qi5 hw; omega) l [] rfl)).imp2 (Q := fun n => C lb n QfG [.list false (scv (l.map Qby)), .str [32]] = some (.str (QaO l))) ?_ fun n hn hj => ?_
 ·have hb := Qj0 l
  refine Ret.lib rfl ?_
  unfold Qlr
  simp only [Qp1]
  rw [if_pos ⟨by rw [List.length_map]; omega, by rw [← QlG]; omega⟩, ← QlG]
 ·rw [hn, QpT, hj]
  rfl
theorem Qqk (an : Bool) (l : List Bs) (hl : l.length ≤ 100000000) (hm : Qa7 l ≤ 100000000) :
  ∀ t p, p ++ t = l → ∀ (bn : Bool) (acc : Bs), acc.length ≤ 4 * Qa7 p + 3 * p.length → Evt fun n => ∀ k, t.length < k →
   QeV lb n k an (scv l) bn (bcv acc) (p.length : Int) = some (.str (acc ++ (if p = [] ∨ t = [] then QaO t else 32 :: QaO t)))
 | [], p, h, bn, acc, ha => .all fun n k hk => by
  obtain ⟨k, rfl⟩ : ∃ m, k = m + 1 := ⟨k - 1, by simp at hk; omega⟩
  have : p = l := by simpa using h
  rw [Qjq, decF (by rw [this, QcZ]; omega), cond_false, QrH, QeU]
  simp [QaP, QaO]
 | w :: t, p, h, bn, acc, ha => by
  have hll : l.length = p.length + (t.length + 1) := by rw [← h]; simp
  have hsum : Qa7 l = Qa7 p + (w.length + Qa7 t) := by rw [← h, QqE, Qee]
  have hat : atL (scv l) (p.length : Int) = some [.str w] := Qcv (Qrb (by rw [← h]; simp))
  have hwl := Qiq w
  let acc1 : Bs := if p = [] then acc else acc ++ [32]
  have hacc1 : acc1.length ≤ acc.length + 1 := by simp only [acc1]; split <;> simp
  have hne : ¬ (p ++ [w] = [] ∨ t = []) ↔ t ≠ [] := by simp
  have fin : acc1 ++ Qby w ++ (if p ++ [w] = [] ∨ t = [] then QaO t else 32 :: QaO t) = acc ++ (if p = [] ∨ w :: t = [] then QaO (w :: t) else 32 :: QaO (w :: t)) := by
   simp only [acc1]
   cases t with
   | nil =>
    by_cases hp : p = []
    ·simp [hp, QaO]
    ·simp [hp, QaO]
   | cons x t =>
    rw [QeE w (by simp)]
    by_cases hp : p = []
    ·simp [hp]
    ·simp [hp]
  rw [← fin]
  let bn1 : Bool := if p = [] then bn else bn && false
  let bn2 : Bool := bn1 && (bcv (Qby w)).isEmpty
  refine (Qqk an l hl hm t (p ++ [w]) (by rw [← h]; simp) bn2 (acc1 ++ Qby w) (by rw [QqE, Qee]; simp [Qa7]; simp [Qa7] at ha; omega)).imp2 ((Qsz lb w (by omega)).and (QsM lb w (by omega))) fun n hn ⟨h1, h2⟩ k hk => ?_
  obtain ⟨k, rfl⟩ : ∃ m, k = m + 1 := ⟨k - 1, by simp at hk; omega⟩
  have hn := hn k (by simp at hk; omega)
  have step : Qh1 lb n k an (scv l) (p.length : Int) bn1 (bcv acc1) = QeV lb n k an (scv l) bn2 (bcv (acc1 ++ Qby w)) ((p ++ [w]).length : Int) := by
   have hbq : ∀ s : Bs, (s.map fun c => [CV.int .u8 c.toNat]) = bcv s := fun _ => rfl
   rw [Qry]
   simp only [hat, QaP, List.length_cons, List.length_nil, Nat.zero_add, beq_self_eq_true, Qbf, get0, h1, h2, QaU, Qpj, hbq, QkF, QaN (x := (p.length : Int) + 1) (by omega) (by omega)]
   rw [show (p.length : Int) + 1 = ((p ++ [w]).length : Int) by simp]
   have hql := QnR w
   cases hp : Qds w with
   | false =>
    rw [Bool.not_false, cond_true, Qbg (by rw [Qd1, Qd1]; omega), Qbf, ← Qrx]
    simp only [bn2, Qby, hp, Bool.false_eq_true, if_false]
   | true =>
    rw [Bool.not_true, cond_false, Qbg (by rw [Qd1, Qd1]; omega), Qbf, ← Qrx]
    simp only [bn2, Qby, hp, if_true]
  rw [Qjq, decT (by rw [QcZ]; omega), cond_true]
  by_cases hp : p = []
  ·have e1 : acc1 = acc := by simp [acc1, hp]
   have e2 : bn1 = bn := by simp [bn1, hp]
   rw [decF (by rw [hp]; simp), cond_false]
   rw [e1, e2] at step
   rw [step, ← hn, e1]
  ·have e1 : acc1 = acc ++ [32] := by simp [acc1, hp]
   have e2 : bn1 = (bn && false) := by simp [bn1, hp]
   have hpl : 0 < p.length := List.length_pos_iff.2 hp
   rw [decT (by omega), cond_true, Qbg (by rw [Qd1]; omega), Qbf, show bcv acc ++ [[CV.int .u8 32]] = bcv (acc ++ [32]) by simp [bcv]]
   rw [e1, e2] at step
   rw [step, ← hn, e1]
theorem Qhl (an : Bool) (l : List Bs) (hl : l.length ≤ 100000000) (hm : Qa7 l ≤ 100000000) : Ret lb QaQ [.list an (scv l)] (.str (QaO l)) := by
 refine .top rfl (.eq (fun n => by rw [QuZ]) ?_)
 refine (Evt.diag (Qqk lb an l hl hm l [] rfl true [] (Nat.zero_le _))).mono fun n hn => Eq.trans hn ?_
 simp
end Go.Proofs
set_option linter.unusedSimpArgs false
namespace Go.Proofs
open Go.Am
variable (lb : Nat)
theorem Qjk {x : Int} (h0 : 0 ≤ x) (h1 : x < 18446744073709551616) : IntKind.wrap .u64 x = x := by
 unfold IntKind.wrap
 simp only [IntKind.bits, IntKind.signed]
 simp
 omega
theorem QuS (s : Bs) : Lib.trimPrefix s [45] = QaS s := by
 cases s with
 | nil => rfl
 | cons c r =>
  unfold Lib.trimPrefix Lib.hasPrefix QaS
  by_cases h : c = 45
  ·subst h; simp
  ·have : ¬ (45 : UInt8) = c := fun q => h q.symm
   simp [h, this]
def Qwu (p : Int × Int) : CV := .tup [.int .i64 p.1, .int .i64 p.2]
def numR (s : Bs) : CV := Qwu (numB s)
def numV (neg : Bool) (v : Nat) : Int × Int := bif neg then (if v ≤ 9223372036854775808 then (-(v : Int), 0) else (0, 4)) else (if v < 9223372036854775808 then ((v : Int), 0) else (0, 4))
theorem QzC {v : Nat} (h : v ≤ 9223372036854775808) : numV true v = (-(v : Int), 0) := by unfold numV; rw [cond_true, if_pos h]
theorem QzU {v : Nat} (h : ¬ v ≤ 9223372036854775808) : numV true v = (0, 4) := by unfold numV; rw [cond_true, if_neg h]
theorem Qzz {v : Nat} (h : v < 9223372036854775808) : numV false v = ((v : Int), 0) := by unfold numV; rw [cond_false, if_pos h]
theorem QzR {v : Nat} (h : ¬ v < 9223372036854775808) : numV false v = (0, 4) := by unfold numV; rw [cond_false, if_neg h]
theorem QoX {s : Bs} (h : QaS s = [] ∨ (QaS s).all isDg = false ∨ ((QaS s).head? = some 48 ∧ s ≠ [48])) : numB s = (0, 3) := by unfold numB; rw [if_pos h]
theorem Qsq {s : Bs} (h1 : QaS s ≠ []) (h2 : (QaS s).all isDg = true) (h3 : ¬ ((QaS s).head? = some 48 ∧ s ≠ [48])) : numB s = numV (signed s) (valF 0 (QaS s)) := by
 unfold numB numV
 rw [if_neg (by
  rintro (q | q | q)
  ·exact h1 q
  ·rw [h2] at q; cases q
  ·exact h3 q)]
 cases signed s <;> rfl
theorem Qgy (a b : Int) : some (CV.tup [.int .i64 a, .int .i64 b]) = some (Qwu (a, b)) := rfl
theorem Qyr (s : Bs) (h1 : QaS s ≠ []) (h2 : (QaS s).all isDg = true) : Lib.atoiAll s =
  (if signed s then (if valF 0 (QaS s) ≤ 9223372036854775808 then .ok (-(valF 0 (QaS s) : Int)) else .range) else (if valF 0 (QaS s) < 9223372036854775808 then .ok (valF 0 (QaS s) : Int) else .range)) := by
 match s, h1, h2 with
 | [], h1, _ => exact (h1 rfl).elim
 | c :: r, h1, h2 =>
  have key : (if c.toNat = 43 ∨ c.toNat = 45 then r else c :: r) = QaS (c :: r) := by
   by_cases h : c = 45
   ·subst h; rfl
   ·have h45 : c.toNat ≠ 45 := fun q => h (Qdd q)
    have e : QaS (c :: r) = c :: r := by simp [QaS, h]
    rw [e] at h2 ⊢
    simp only [List.all_cons, Bool.and_eq_true, isDg, decide_eq_true_eq] at h2
    rw [if_neg (by omega)]
  unfold Lib.atoiAll
  simp only [key]
  unfold Lib.parseMag
  rw [if_neg h1, Qr5 _ _ h2 (by decide)]
  have hs : signed (c :: r) = decide (c.toNat = 45) := by
   unfold signed
   by_cases h : c = 45
   ·subst h; rfl
   ·have h45 : c.toNat ≠ 45 := fun q => h (Qdd q)
    simp [h, h45]
  rw [hs]
  generalize valF 0 (QaS (c :: r)) = v
  by_cases hv : v < 18446744073709551616
  ·rw [if_pos hv]
   by_cases hn : c.toNat = 45
   ·simp only [hn, not_true_eq_false, false_and, if_false, true_and, decide_true, if_true]
    by_cases h5 : 9223372036854775808 < v
    ·rw [if_pos h5, if_neg (by omega)]
    ·rw [if_neg h5, if_pos (by omega)]
   ·simp only [hn, not_false_eq_true, true_and, false_and, if_false, decide_false, Bool.false_eq_true]
    by_cases h5 : 9223372036854775808 ≤ v
    ·rw [if_pos h5, if_neg (by omega)]
    ·rw [if_neg h5, if_pos (by omega)]
  ·rw [if_neg hv]
   simp only
   split
   ·rw [if_neg (by omega)]
   ·rw [if_neg (by omega)]
theorem QqH (s : Bs) (hs : s.length ≤ 1000000000) : Ret (lb + 1) QiD [.str s] (numR s) := by
 refine .top rfl (.eq (fun n => by rw [QqW]) ?_)
 have ht : Ret (lb + 1) Qdx [.str s, .str [45]] (.str (QaS s)) := .lib rfl (by simp [QfQ, QuS])
 have hul : (QaS s).length ≤ s.length := by
  cases s with
  | nil => simp [QaS]
  | cons c r => simp only [QaS]; split <;> simp
 refine .call ht ?_
 simp only [QaP, Qpj]
 unfold numR
 by_cases h1 : QaS s = []
 ·rw [QoX (.inl h1)]
  simp only [h1, show (([] : Bs) == []) = true from rfl, cond_true]
  exact .of (Qgy _ _)
 simp only [show (QaS s == []) = false by simpa using h1, cond_false]
 refine .call (QgX (lb + 1) (QaS s) (by omega)) ?_
 simp only [QaP, QaU]
 cases h2 : (QaS s).all isDg with
 | false =>
  rw [QoX (.inr (.inl h2))]
  simp only [Bool.not_false, cond_true]
  exact .of (Qgy _ _)
 | true =>
  simp only [Bool.not_true, cond_false]
  obtain ⟨x, xs, hx⟩ := List.exists_cons_of_ne_nil h1
  have hat : atS (QaS s) 0 = some x := by rw [hx]; rfl
  have hatoi : Ret (lb + 1) QdF [.str s] (match Lib.atoiAll s with
   | .ok v => .tup [.int .i64 v, .nilif]
   | .range => .tup [.int .i64 (Lib.atoiSat s), .err]
   | _ => .tup [.int .i64 0, .err]) := by
   refine .lib rfl ?_
   unfold QlF
   simp only
   rw [if_pos (by omega)]
   cases Lib.atoiAll s <;> rfl
  have rest : Evt fun n => (optO (C (lb + 1) n QdF [.str s]) fun vm => optO (CV.asT vm) fun pI => optO (pI[0]?) fun p8 => optO (CV.asT vm) fun pU => optO (pU[1]?) fun qE => optO (CV.asE qE) fun qJ =>
    bif (!qJ) then (some (.tup [.int .i64 0, .int .i64 4])) else (some (.tup [p8, .int .i64 0]))) = some (Qwu (numV (signed s) (valF 0 (QaS s)))) := by
   refine .call hatoi ?_
   rw [Qyr s h1 h2]
   generalize valF 0 (QaS s) = v
   cases hs : signed s with
   | true =>
    rw [if_pos rfl]
    by_cases hv : v ≤ 9223372036854775808
    ·rw [if_pos hv, QzC hv]
     simp only [Qg7, get0, get1, Qy6, QaP, Bool.not_true, cond_false]
     exact .of (Qgy _ _)
    ·rw [if_neg hv, QzU hv]
     simp only [Qg7, get0, get1, QyO, QaP, Bool.not_false, cond_true]
     exact .of (Qgy _ _)
   | false =>
    rw [if_neg (by decide)]
    by_cases hv : v < 9223372036854775808
    ·rw [if_pos hv, Qzz hv]
     simp only [Qg7, get0, get1, Qy6, QaP, Bool.not_true, cond_false]
     exact .of (Qgy _ _)
    ·rw [if_neg hv, QzR hv]
     simp only [Qg7, get0, get1, QyO, QaP, Bool.not_false, cond_true]
     exact .of (Qgy _ _)
  simp only [hat, QaP]
  by_cases h48 : x = 48
  ·simp only [beqT (show (x.toNat : Int) = 48 by rw [h48]; rfl), cond_true]
   by_cases h3 : s = [48]
   ·have e : (!(s == [48])) = false := by rw [h3]; rfl
    simp only [e, cond_false]
    rw [Qsq h1 h2 (by rintro ⟨_, q⟩; exact q h3)]
    exact rest
   ·have e : (!(s == [48])) = true := by simpa using h3
    simp only [e, cond_true]
    rw [QoX (.inr (.inr ⟨by rw [hx, h48]; rfl, h3⟩))]
    exact .of (Qgy _ _)
  ·have h48' : x.toNat ≠ 48 := fun q => h48 (Qdd q)
   simp only [beqF (show (x.toNat : Int) ≠ 48 by omega), cond_false]
   rw [Qsq h1 h2 (by rw [hx]; simp [h48])]
   exact rest
theorem Qbc (z : Int) (h0 : -9223372036854775808 ≤ z) (h1 : z ≤ 9223372036854775807) : Ret lb Qba [.int .i64 z] (.str (Lib.itoa z)) := by
 refine .top rfl (.eq (fun n => by rw [QqQ]) ?_)
 refine .call (v := .str (Lib.itoa z)) (.lib rfl ?_) .done
 simp only [Qlt, if_pos (And.intro h0 h1), Qtm h0 h1]
theorem Qr7 : ∀ d, d < 10 → (([48, 49, 50, 51, 52, 53, 54, 55, 56, 57] : Bs).take (d + 1)).drop d = [UInt8.ofNat (48 + d)] := by decide +kernel
theorem Qk2 : ∀ (N u : Nat), u ≤ N → u < 18446744073709551616 → Ret lb QfA [.int .u64 (u : Int)] (.str (Lib.decDigits u)) := by
 intro N
 induction N with
 | zero =>
  intro u hu _
  have : u = 0 := by omega
  subst this
  refine .top rfl (.all fun n => ?_)
  rw [Qma, Lib.decDigits, dif_pos (by decide)]
  rfl
 | succ N ih =>
  intro u hu h64
  refine .top rfl (.eq (fun n => by rw [Qma]) ?_)
  by_cases h : u < 10
  ·simp only [decT (show (u : Int) < 10 by omega), cond_true, Qjk (x := (u : Int) + 1) (by omega) (by omega)]
   refine .chk (decT ⟨by omega, by omega⟩) (.chk (decT ⟨by omega, by omega⟩) ?_)
   rw [Lib.decDigits, dif_pos h, show ((u : Int) + 1).toNat = u + 1 by omega, Int.toNat_natCast, Qr7 u h]
   exact .done
  ·simp only [decF (show ¬ (u : Int) < 10 by omega), cond_false]
   have e1 : IntKind.wrap .u64 (Int.tdiv (u : Int) 10) = ((u / 10 : Nat) : Int) := by
    rw [show Int.tdiv (u : Int) 10 = ((u / 10 : Nat) : Int) from rfl, Qjk (by omega) (by omega)]
   have e2 : Int.tmod (u : Int) 10 = ((u % 10 : Nat) : Int) := rfl
   have e3 : IntKind.wrap .u64 (((u % 10 : Nat) : Int) + 1) = ((u % 10 + 1 : Nat) : Int) := by rw [Qjk (by omega) (by omega)]; omega
   simp only [e1, e2, e3]
   refine .call (ih (u / 10) (by omega) (by omega)) ?_
   refine .chk (decT ⟨by omega, by omega⟩) (.chk (decT ⟨by omega, by omega⟩) ?_)
   simp only [QaP, Qpj, Int.toNat_natCast, Qr7 _ (show u % 10 < 10 by omega)]
   rw [Lib.decDigits.eq_def u, dif_neg h]
   refine .chk (decT ?_) .done
   have := Qbb (z := ((u / 10 : Nat) : Int)) (by omega) (by omega)
   unfold Lib.itoa at this
   rw [if_neg (by omega), Int.toNat_natCast] at this
   simp only [List.length_cons, List.length_nil]
   omega
theorem Qe1 (z : Int) (h0 : -9223372036854775808 ≤ z) (h1 : z ≤ 9223372036854775807) : Ret lb Qdn [.int .i64 z] (.str (Lib.itoa z)) := by
 refine .top rfl (.eq (fun n => by rw [Qrt]) ?_)
 unfold Lib.itoa
 by_cases h : z < 0
 ·simp only [decT h, cond_true, if_pos h, QaN (x := z + 1) (by omega) (by omega), QaN (x := 0 - (z + 1)) (by omega) (by omega), Qjk (x := 0 - (z + 1)) (by omega) (by omega), Qjk (x := 0 - (z + 1) + 1) (by omega) (by omega)]
  rw [show 0 - (z + 1) + 1 = (z.natAbs : Int) by omega]
  refine .call (Qk2 lb z.natAbs z.natAbs (Nat.le_refl _) (by omega)) ?_
  simp only [QaP, Qpj]
  refine .chk (decT ?_) .done
  have := Qbb h0 h1
  unfold Lib.itoa at this
  rw [if_pos h] at this
  simp only [List.length_cons, List.length_nil] at this ⊢
  omega
 ·simp only [decF h, cond_false, if_neg h, Qjk (x := z) (by omega) (by omega)]
  have := Qk2 lb z.toNat z.toNat (Nat.le_refl _) (by omega)
  rw [show ((z.toNat : Nat) : Int) = z by omega] at this
  exact .call this .done
end Go.Proofs
set_option linter.unusedSimpArgs false
namespace Go.Proofs
open Go.Am
variable (lb : Nat)
def QaL (c : UInt8) : Bs → List Bs
 | [] => [[]]
 | x :: r => if x = c then [] :: QaL c r else match QaL c r with
  | w :: ws => (x :: w) :: ws
  | [] => [[x]]
theorem Qkd (c : UInt8) : ∀ s, QaL c s ≠ []
 | [] => by simp [QaL]
 | x :: r => by
  unfold QaL
  split
  ·simp
  ·split <;> simp
theorem QiH (c : UInt8) (l : Bs) : Lib.index (c :: l) [c] = 0 := by
 rw [Lib.index]
 simp
theorem QiI {b c : UInt8} (l : Bs) (h : b ≠ c) : Lib.index (b :: l) [c] = if Lib.index l [c] = -1 then -1 else Lib.index l [c] + 1 := by
 rw [Lib.index]
 have : ¬ c = b := fun q => h q.symm
 simp [this]
theorem QuW {c : UInt8} {l : Bs} (h : Lib.count l [c] ≠ 0) : Lib.index l [c] ≠ -1 := by
 intro q
 apply h
 unfold Lib.count
 rw [Lib.countFrom]
 simp [q]
theorem Qlo {c : UInt8} {k : Nat} {l : Bs} (h : Lib.index l [c] ≠ -1) : Lib.splitK [c] 0 (k + 1) l = l.take (Lib.index l [c]).toNat :: Lib.splitK [c] 0 k (l.drop ((Lib.index l [c]).toNat + 1)) := by
 rw [Lib.splitK]
 have : (Lib.index l [c] == -1) = false := by simpa using h
 simp [this]
theorem QrX (c : UInt8) : ∀ s : Bs, Lib.split s [c] = QaL c s
 | [] => by simp [Lib.split, Lib.count, Lib.countFrom, Lib.index, QaL, Lib.splitK]
 | x :: l => by
  have ih := QrX c l
  unfold Lib.split at ih ⊢
  by_cases h : x = c
  ·subst h
   rw [Lib.count_cons_eq, Nat.add_comm 1, Qlo (by rw [QiH]; decide), QiH]
   simp only [QaL, if_true]
   simpa using ih
  ·rw [Lib.count_cons_ne x c l h]
   cases hk : Lib.count l [c] with
   | zero =>
    rw [hk] at ih
    simp only [Lib.splitK] at ih ⊢
    simp [QaL, h, ← ih]
   | succ k =>
    have hi := QuW (c := c) (l := l) (by omega)
    have hge := Lib.index_ge l [c]
    rw [hk, Qlo hi] at ih
    have hx : Lib.index (x :: l) [c] = Lib.index l [c] + 1 := by rw [QiI l h, if_neg hi]
    rw [Qlo (by rw [hx]; omega), hx]
    obtain ⟨i, hi'⟩ : ∃ i : Nat, Lib.index l [c] = i := ⟨(Lib.index l [c]).toNat, by omega⟩
    rw [hi'] at ih ⊢
    rw [show ((i : Int) + 1).toNat = i + 1 by omega, List.take_succ_cons, List.drop_succ_cons]
    rw [Int.toNat_natCast] at ih
    simp [QaL, h, ← ih]
def nmB (b : Bool) : Bs → Bool
 | [] => !b
 | c :: r => if isUp c then nmB false r else if c.toNat = 32 then !b && nmB true r else false
def Qgm (s : Bs) : Bool := decide (s.length ≤ 30) && nmB true s
def QfT (ws : List Bs) : Bool := ws.all fun w => !w.isEmpty && w.all isUp
theorem Qy7 {c : UInt8} (h : isUp c = true) : c.toNat ≠ 32 ∧ c ≠ 32 := by
 simp only [isUp, Bool.and_eq_true, decide_eq_true_eq] at h
 exact ⟨by omega, fun q => by subst q; simp at h⟩
theorem QtZ : ∀ s : Bs, QfT (QaL 32 s) = nmB true s ∧ (match QaL 32 s with
  | w :: ws => w.all isUp && QfT ws
  | [] => false) = nmB false s
 | [] => by simp [QaL, QfT, nmB]
 | c :: r => by
  obtain ⟨h1, h2⟩ := QtZ r
  unfold QaL nmB
  by_cases hu : isUp c = true
  ·have := Qy7 hu
   rw [if_neg this.2]
   simp only [hu, if_true]
   cases hs : QaL 32 r with
   | nil => exact (Qkd 32 r hs).elim
   | cons w ws =>
    rw [hs] at h2
    simp only at h2
    constructor
    ·rw [← h2]; simp [QfT, hu]
    ·rw [← h2]; simp [hu]
  ·by_cases h32 : c.toNat = 32
   ·have hc : c = 32 := Qdd h32
    simp only [hu, hc, if_true, Bool.false_eq_true, if_false]
    have hu32 : isUp 32 = false := rfl
    constructor
    ·simp [QfT, hu32]
    ·simp [h1, hu32]
   ·have hc : c ≠ 32 := fun q => h32 (by rw [q]; rfl)
    simp only [hu, hc, h32, if_false, Bool.false_eq_true]
    cases hs : QaL 32 r with
    | nil => exact (Qkd 32 r hs).elim
    | cons w ws => simp [QfT, hu]
theorem QpS (c : UInt8) : ∀ s, (QaL c s).length ≤ s.length + 1 ∧ ∀ w ∈ QaL c s, w.length ≤ s.length
 | [] => by simp [QaL]
 | x :: r => by
  obtain ⟨h1, h2⟩ := QpS c r
  unfold QaL
  split
  ·refine ⟨by simp; omega, fun w hw => ?_⟩
   rcases List.mem_cons.1 hw with rfl | hw
   ·simp
   ·have := h2 w hw; simp; omega
  ·split
   ·rename_i w ws hs
    rw [hs] at h1 h2
    refine ⟨by simp at h1 ⊢; omega, fun v hv => ?_⟩
    rcases List.mem_cons.1 hv with rfl | hv
    ·have := h2 w (List.mem_cons_self ..); simp; omega
    ·have := h2 v (List.mem_cons_of_mem _ hv); simp; omega
   ·refine ⟨by simp, fun v hv => ?_⟩
    simp only [List.mem_cons, List.not_mem_nil, or_false] at hv
    subst hv; simp
theorem Qw0 (s : Bs) (c : UInt8) (hs : s.length ≤ 1000000000) : Ret lb Qe4 [.str s, .str [c]] (.list false (scv (QaL c s))) := by
 refine .lib rfl ?_
 unfold Qkh
 simp only
 rw [if_pos ⟨by omega, by simp⟩, QrX]
 rfl
theorem QsV (s : Bs) (hs : s.length ≤ 1000000000) : Ret lb QbH [.str s] (.bool (Qgm s)) := by
 refine .top rfl (.eq (fun n => by rw [Qnd]) ?_)
 unfold Qgm
 by_cases h : s.length ≤ 30
 ·simp only [decF (show ¬ (s.length : Int) > 30 by omega), cond_false, h, decide_true, Bool.true_and]
  refine .call (Qw0 lb s 32 hs) ?_
  simp only [QaP, Qlw]
  rw [← (QtZ s).1]
  obtain ⟨h1, h2⟩ := QpS 32 s
  generalize QaL 32 s = l at h1 h2
  refine Evt.diag (m := l.length) (QcT (enc := fun w => [CV.str w]) (l := l) (by omega) (P := fun p t n k => Qhk lb n k s (.list false (scv l)) (false, scv l) (p.length : Int) = some (.bool (QfT t))) ?_ ?_ l [] rfl)
  ·refine .all fun n k => ?_
   rw [QiS, decF (by rw [QcZ]; omega), cond_false, QpQ]
   rfl
  ·intro p w t hp hlt hat hw hev
   have hwl := h2 w (by rw [← hp]; simp)
   refine hev.imp2 (Qf0 lb w (by omega)) fun n hn hc k hk => ?_
   have hat : atL (scv l) (p.length : Int) = some [.str w] := hat
   have hlt : (p.length : Int) < ((scv l).length : Int) := hlt
   rw [QiS]
   simp only [decT hlt, cond_true, Qlw, QaP, hat, List.length_cons, List.length_nil, Nat.zero_add, beq_self_eq_true, Qbf, get0, Qpj, hc, QaU, hw]
   unfold QfT
   rw [List.all_cons]
   cases w with
   | nil => rfl
   | cons x xs =>
    simp only [show (x :: xs == []) = false from rfl, cond_false, List.isEmpty_cons, Bool.not_false, Bool.true_and]
    cases (x :: xs).all isUp
    ·rfl
    ·simpa [QfT] using hn k hk
 ·simp only [decT (show (s.length : Int) > 30 by omega), cond_true, h, decide_false, Bool.false_and]
  first | exact .done | exact .of trivial
theorem Qq5 : ∀ (s : Bs) (b : Bool) (x : UInt8), s.getLast? = some x → x.toNat = 32 → nmB b s = false
 | [], _, _, h, _ => by simp at h
 | [c], b, x, h, hx => by
  simp at h; subst h
  have : isUp c = false := by simp [isUp, hx]
  simp [nmB, this, hx]
 | c :: d :: r, b, x, h, hx => by
  have h' : (d :: r).getLast? = some x := by simpa [List.getLast?_cons] using h
  rw [nmB]
  split
  ·exact Qq5 _ _ _ h' hx
  ·split
   ·rw [Qq5 _ _ _ h' hx]; simp
   ·rfl
theorem Ql4 (s : Bs) (hs : s.length ≤ 1000000000) (hlast : ∀ x, s.getLast? = some x → x.toNat ≠ 32) : ∀ (t p : Bs) (x : UInt8), p ++ x :: t = s →
  Evt fun n => ∀ k, t.length < k → QfZ lb n k s ((p ++ [x]).length : Int) = some (.bool (nmB (decide (x.toNat = 32)) t))
 | [], p, x, h => .all fun n k hk => by
  obtain ⟨k, rfl⟩ : ∃ m, k = m + 1 := ⟨k - 1, by simp at hk; omega⟩
  have hx := hlast x (by rw [← h]; simp)
  rw [Qgw, decF (by rw [← h]; omega), cond_false, Qrh]
  simp [nmB, hx]
 | c :: t, p, x, h => by
  have hl : s.length = p.length + (t.length + 2) := by rw [← h]; simp
  have e : (p ++ [x]).length = p.length + 1 := by simp
  have hat : atS s ((p ++ [x]).length : Int) = some c := Qjv (by rw [← h, e]; simp [List.getElem?_append_right])
  have hat2 : atS s (p.length : Int) = some x := Qjv (by rw [← h]; simp)
  refine (Ql4 s hs hlast t (p ++ [x]) c (by rw [← h]; simp)).imp2 (Qd0 lb c) fun n hn hc k hk => ?_
  obtain ⟨k, rfl⟩ : ∃ m, k = m + 1 := ⟨k - 1, by simp at hk; omega⟩
  have hn := hn k (by simp at hk; omega)
  have e2 : IntKind.wrap .i64 (((p ++ [x]).length : Int) + 1) = ((p ++ [x] ++ [c]).length : Int) := by rw [QaN (by omega) (by omega)]; simp only [List.length_append, List.length_cons, List.length_nil]; omega
  have e3 : IntKind.wrap .i64 (((p ++ [x]).length : Int) - 1) = (p.length : Int) := by rw [QaN (by omega) (by omega)]; omega
  rw [Qgw]
  simp only [decT (show (((p ++ [x]).length : Nat) : Int) < (s.length : Int) by omega), cond_true, hat, QaP, hc, QaU, e2, e3, hat2, nmB]
  cases hu : isUp c with
  | true =>
   have := (Qy7 hu).1
   rw [decF this] at hn
   simpa using hn
  | false =>
   rw [Bool.not_false, cond_true]
   by_cases h32 : c.toNat = 32
   ·rw [bneF (by omega), cond_false]
    by_cases hx : x.toNat = 32
    ·rw [beqT (by omega), cond_true]
     simp [h32, hx]
    ·rw [beqF (by omega), cond_false]
     rw [decT h32] at hn
     simpa [h32, hx] using hn
   ·rw [bneT (by omega), cond_true]
    simp [h32]
theorem QmK (s : Bs) (hs : s.length ≤ 1000000000) : Ret lb Qb5 [.str s] (.bool (Qgm s)) := by
 refine .top rfl (.eq (fun n => by rw [Qu6]) ?_)
 unfold Qgm
 match s, hs with
 | [], _ => exact .of rfl
 | c :: r, hs =>
  simp only [decF (show ¬ ((c :: r).length : Int) < 1 by simp only [List.length_cons]; omega), cond_false]
  by_cases h30 : (c :: r).length ≤ 30
  ·simp only [decF (show ¬ ((c :: r).length : Int) > 30 by omega), cond_false, h30, decide_true, Bool.true_and]
   simp only [show atS (c :: r) 0 = some c from rfl]
   simp only [QaP]
   by_cases h32 : c.toNat = 32
   ·simp only [beqT (show (c.toNat : Int) = 32 by omega), cond_true]
    have : isUp c = false := by simp [isUp, h32]
    exact .of (by simp [nmB, h32, this])
   ·simp only [beqF (show (c.toNat : Int) ≠ 32 by omega), cond_false]
    obtain ⟨x, hx⟩ : ∃ x, (c :: r).getLast? = some x := by
     cases hq : (c :: r).getLast? with
     | none => simp at hq
     | some x => exact ⟨x, rfl⟩
    have hw : IntKind.wrap .i64 (((c :: r).length : Int) - 1) = ((r.length : Nat) : Int) := by rw [QaN (by simp only [List.length_cons] at hs ⊢; omega) (by simp only [List.length_cons] at hs ⊢; omega)]; simp
    have hat : atS (c :: r) ((r.length : Nat) : Int) = some x := Qjv (by rw [List.getLast?_eq_getElem?] at hx; simpa using hx)
    rw [hw]
    simp only [hat]
    simp only [QaP]
    by_cases hx32 : x.toNat = 32
    ·simp only [beqT (show (x.toNat : Int) = 32 by omega), cond_true]
     rw [Qq5 _ _ _ hx hx32]
     exact .done
    ·simp only [beqF (show (x.toNat : Int) ≠ 32 by omega), cond_false]
     have hlast : ∀ y, (c :: r).getLast? = some y → y.toNat ≠ 32 := fun y hy => by
      rw [hx] at hy
      simp only [Option.some.injEq] at hy
      rw [← hy]; exact hx32
     refine ((Ql4 lb (c :: r) hs hlast r [] c rfl).and (Evt.ge (r.length + 2))).imp2 (Qd0 lb c) fun n ⟨hn, hge⟩ hc => ?_
     obtain ⟨k, rfl⟩ : ∃ k, n = k + 1 := ⟨n - 1, by omega⟩
     have hn := hn k (by omega)
     rw [Qgw]
     simp only [decT (show (0 : Int) < ((c :: r).length : Int) by simp only [List.length_cons]; omega), cond_true]
     simp only [show atS (c :: r) 0 = some c from rfl]
     simp only [QaP, hc, QaU]
     cases hu : isUp c with
     | true =>
      rw [Bool.not_true, cond_false, QaN (by omega) (by omega)]
      rw [decF h32] at hn
      simpa [nmB, hu] using hn
     | false =>
      rw [Bool.not_false, cond_true, bneT (by omega), cond_true]
      simp [nmB, hu, h32]
  ·simp only [decT (show ((c :: r).length : Int) > 30 by omega), cond_true, h30, decide_false, Bool.false_and]
   first | exact .done | exact .of trivial
end Go.Proofs
