/- What the functions of package text and of its reference answer: quoted texts. Conditions: as each says. -/
import Derived.Test.YtdcpdknginpohaaGreatDoorG1
import Derived.Test.YtdcpdknginpohaaGreatDoorRk
import Derived.Laws.RangeAny
import Derived.Laws.RangeString
set_option linter.unusedSimpArgs false
namespace Go.Proofs
open Go.Am
variable (lb : Nat)
theorem QkD : ∀ n : Nat, n < 16 → atS [48, 49, 50, 51, 52, 53, 54, 55, 56, 57, 97, 98, 99, 100, 101, 102] (n : Int) = some (hexB n) := by decide +kernel
theorem QyE (c : UInt8) : Int.fdiv (c.toNat : Int) (2 ^ 4) = ((c.toNat / 16 : Nat) : Int) := by
 revert c; refine Qep ?_; decide +kernel
theorem Qy0 (c : UInt8) : IntKind.wrap .u8 ((BitVec.ofInt 8 (c.toNat : Int) &&& BitVec.ofInt 8 15).toNat) = ((c.toNat % 16 : Nat) : Int) := by
 revert c; refine Qep ?_; decide +kernel
theorem QyS (c : UInt8) : IntKind.wrap .u8 (Int.tdiv (c.toNat : Int) 16) = ((c.toNat / 16 : Nat) : Int) := by
 revert c; refine Qep ?_; decide +kernel
theorem QyD (c : UInt8) : Int.tmod (c.toNat : Int) 16 = ((c.toNat % 16 : Nat) : Int) := by
 revert c; refine Qep ?_; decide +kernel
theorem Qp9 (s : Bs) (hs : s.length ≤ 1000000000) : Ret lb QbK [.str s] (.str (quo s)) := by
 refine .top rfl (.eq (fun n => by rw [QrP]) ?_)
 rw [Qag (by omega) (by omega)]
 refine .chk (by simp; omega) ?_
 refine Evt.diag (m := s.length) (Qgg (Nat.le_trans hs (by decide)) (P := fun p _ n k => QcL lb n k s (bcv (34 :: p.flatMap esc)) (p.length : Int) = some (.str (quo s))) ?_ ?_ s [] rfl)
 ·refine .all fun n k => ?_
  have := Qeh s
  rw [QhB, decF (by omega), cond_false, QoE, Qbf (by rw [QdB, List.length_cons]; omega), Qav]
  rw [show bcv (34 :: s.flatMap esc) ++ [[CV.int .u8 34]] = bcv (quo s) from by simp [quo, bcv], QeC]
  rfl
 ·intro p c t hp hlt hat hw hev
  refine hev.mono fun n hn k hk => ?_
  have hn := hn k hk
  rw [← hw] at hn
  have hl : s.length = p.length + (t.length + 1) := by rw [← hp]; simp
  have hf := Qeh p
  have hc : c.toNat < 256 := c.toNat_lt
  have hb : (bcv (34 :: p.flatMap esc)).length ≤ 4000000001 := by rw [QdB]; simp only [List.length_cons]; omega
  rw [QhB]
  simp only [hlt, decide_true, cond_true, hat, Qaf, QyE, Qy0, QkD _ (show c.toNat / 16 < 16 by omega), QkD _ (show c.toNat % 16 < 16 by omega)]
  have hst : ∀ e : Bs, esc c = e → bcv (34 :: p.flatMap esc) ++ bcv e = bcv (34 :: (p ++ [c]).flatMap esc) := by
   intro e he; simp [bcv, he]
  by_cases h1 : c.toNat = 34
  ·rw [beqT (by omega), cond_true, Qbf (by omega), Qav, show [[CV.int .u8 92], [CV.int .u8 (c.toNat : Int)]] = bcv [92, c] from rfl, hst [92, c] (by simp [esc, h1])]
   exact hn
  rw [beqF (by omega), cond_false]
  by_cases h2 : c.toNat = 92
  ·rw [beqT (by omega), cond_true, Qbf (by omega), Qav, show [[CV.int .u8 92], [CV.int .u8 (c.toNat : Int)]] = bcv [92, c] from rfl, hst [92, c] (by simp [esc, h2])]
   exact hn
  rw [beqF (by omega), cond_false]
  have r4 : room ((bcv (34 :: p.flatMap esc)).length + 4) 1 = true := Qbf (by omega)
  have r1 : room ((bcv (34 :: p.flatMap esc)).length + 1) 1 = true := Qbf (by omega)
  by_cases h3 : c.toNat < 32
  ·rw [decT (by omega), cond_true, r4, Qav, show [[CV.int .u8 92], [CV.int .u8 120], [CV.int .u8 ((hexB (c.toNat / 16)).toNat : Int)], [CV.int .u8 ((hexB (c.toNat % 16)).toNat : Int)]] = bcv [92, 120, hexB (c.toNat / 16), hexB (c.toNat % 16)] from rfl,
    hst _ (by simp [esc, h1, h2, h3])]
   exact hn
  rw [decF (by omega), cond_false]
  by_cases h4 : 126 < c.toNat
  ·rw [decT (by omega), cond_true, r4, Qav, show [[CV.int .u8 92], [CV.int .u8 120], [CV.int .u8 ((hexB (c.toNat / 16)).toNat : Int)], [CV.int .u8 ((hexB (c.toNat % 16)).toNat : Int)]] = bcv [92, 120, hexB (c.toNat / 16), hexB (c.toNat % 16)] from rfl,
    hst _ (by simp [esc, h1, h2, h4])]
   exact hn
  rw [decF (by omega), cond_false, r1, Qav, show [[CV.int .u8 (c.toNat : Int)]] = bcv [c] from rfl, hst _ (by simp [esc, h1, h2, h3, h4])]
  exact hn
theorem QlG (s : Bs) (hs : s.length ≤ 1000000000) : Ret lb QbL [.str s] (.str (quo s)) := by
 refine .top rfl (.eq (fun n => by rw [Qtg]) ?_)
 refine Evt.diag (m := s.length) (Qgg (Nat.le_trans hs (by decide)) (P := fun p _ n k => Qc4 lb n k s (bcv (34 :: p.flatMap esc)) (p.length : Int) = some (.str (quo s))) ?_ ?_ s [] rfl)
 ·refine .all fun n k => ?_
  have := Qeh s
  rw [Qih, decF (by omega), cond_false, QpE, Qbf (by rw [QdB, List.length_cons]; omega), Qav]
  rw [show bcv (34 :: s.flatMap esc) ++ [[CV.int .u8 34]] = bcv (quo s) from by simp [quo, bcv], QeC]
  rfl
 ·intro p c t hp hlt hat hw hev
  refine hev.mono fun n hn k hk => ?_
  have hn := hn k hk
  rw [← hw] at hn
  have hl : s.length = p.length + (t.length + 1) := by rw [← hp]; simp
  have hf := Qeh p
  have hc : c.toNat < 256 := c.toNat_lt
  have hb : (bcv (34 :: p.flatMap esc)).length ≤ 4000000001 := by rw [QdB]; simp only [List.length_cons]; omega
  rw [Qih]
  simp only [hlt, decide_true, cond_true, hat, Qaf, QyS, QyD, QkD _ (show c.toNat / 16 < 16 by omega), QkD _ (show c.toNat % 16 < 16 by omega)]
  have hst : ∀ e : Bs, esc c = e → bcv (34 :: p.flatMap esc) ++ bcv e = bcv (34 :: (p ++ [c]).flatMap esc) := by
   intro e he; simp [bcv, he]
  have r4 : room ((bcv (34 :: p.flatMap esc)).length + 4) 1 = true := Qbf (by omega)
  have r1 : room ((bcv (34 :: p.flatMap esc)).length + 1) 1 = true := Qbf (by omega)
  have r2 : room ((bcv (34 :: p.flatMap esc) ++ [[CV.int .u8 92]]).length + 1) 1 = true := Qbf (by rw [List.length_append]; simp only [List.length_cons, List.length_nil]; omega)
  by_cases h3 : c.toNat < 32
  ·rw [decT (by omega), cond_true, r4, Qav, show [[CV.int .u8 92], [CV.int .u8 120], [CV.int .u8 ((hexB (c.toNat / 16)).toNat : Int)], [CV.int .u8 ((hexB (c.toNat % 16)).toNat : Int)]] = bcv [92, 120, hexB (c.toNat / 16), hexB (c.toNat % 16)] from rfl,
    hst _ (by simp [esc, h3]; omega)]
   exact hn
  rw [decF (by omega), cond_false]
  by_cases h4 : 126 < c.toNat
  ·rw [decT (by omega), cond_true, r4, Qav, show [[CV.int .u8 92], [CV.int .u8 120], [CV.int .u8 ((hexB (c.toNat / 16)).toNat : Int)], [CV.int .u8 ((hexB (c.toNat % 16)).toNat : Int)]] = bcv [92, 120, hexB (c.toNat / 16), hexB (c.toNat % 16)] from rfl,
    hst _ (by simp [esc, h4]; omega)]
   exact hn
  rw [decF (by omega), cond_false]
  by_cases h1 : c.toNat = 34
  ·rw [beqT (by omega), cond_true, r1, Qav, r2, Qav, List.append_assoc, show [[CV.int .u8 92]] ++ [[CV.int .u8 (c.toNat : Int)]] = bcv [92, c] from rfl, hst [92, c] (by simp [esc, h1])]
   exact hn
  rw [beqF (by omega), cond_false]
  by_cases h2 : c.toNat = 92
  ·rw [beqT (by omega), cond_true, r1, Qav, r2, Qav, List.append_assoc, show [[CV.int .u8 92]] ++ [[CV.int .u8 (c.toNat : Int)]] = bcv [92, c] from rfl, hst [92, c] (by simp [esc, h2])]
   exact hn
  rw [beqF (by omega), cond_false, r1, Qav, show [[CV.int .u8 (c.toNat : Int)]] = bcv [c] from rfl, hst _ (by simp [esc, h1, h2, h3, h4])]
  exact hn
end Go.Proofs
set_option linter.unusedSimpArgs false
namespace Go.Proofs
open Go.Am
variable (lb : Nat)
def isUp (c : UInt8) : Bool := decide (65 ≤ c.toNat) && decide (c.toNat ≤ 90)
theorem Qnh {a : Int} {x y : Int} {p : Bool} (hp : p = (decide (x ≤ a) && decide (a ≤ y))) : (bif decide (a ≥ x) then some (CV.bool (decide (a ≤ y))) else some (CV.bool false)) = some (CV.bool p) := by
 subst hp
 by_cases h : x ≤ a
 ·simp [h]
 ·simp [h]
theorem Qjd (c : UInt8) : Ret lb Qb7 [.int .u8 (c.toNat : Int)] (.bool (isUp c)) :=
 .top rfl (.all fun n => by rw [QoS, Qnh (p := isUp c) (by revert c; exact Qep (by decide +kernel))])
theorem QfT (c : UInt8) : Ret lb Qey [.int .u8 (c.toNat : Int)] (.bool (isUp c)) :=
 .top rfl (.all fun n => by rw [Qtk, Qnh (p := isUp c) (by revert c; exact Qep (by decide +kernel))])
theorem Qky (c : UInt8) : Ret lb Qcd [.int .u8 (c.toNat : Int)] (.bool (isDg c)) :=
 .top rfl (.all fun n => by rw [Qrw, Qnh (p := isDg c) (by revert c; exact Qep (by decide +kernel))])
theorem Qh1 (c : UInt8) : Ret lb Qhh [.int .u8 (c.toNat : Int)] (.bool (isDg c)) :=
 .top rfl (.all fun n => by rw [Qs9, Qnh (p := isDg c) (by revert c; exact Qep (by decide +kernel))])
theorem QpD (c : UInt8) : Ret lb QcN [.int .u8 (c.toNat : Int)] (.bool (isUp c || isDg c)) := by
 refine .top rfl (.eq (fun n => by rw [Qp7]) ?_)
 refine .call (Qjd lb c) ?_
 simp only [Qaf, Qbc]
 cases isUp c
 ·simp only [cond_false, Bool.false_or]
  refine .call (Qky lb c) .done
 ·exact .done
theorem Qow (c : UInt8) : Ret lb Qct [.int .u8 (c.toNat : Int)] (.bool (isPl c)) := by
 refine .top rfl (.all fun n => ?_)
 rw [QpI]
 revert c
 refine Qep ?_
 have : ∀ k, k < 256 → (bif decide (((UInt8.ofNat k).toNat : Int) > 32) then bif decide (((UInt8.ofNat k).toNat : Int) ≤ 126) then ((((UInt8.ofNat k).toNat : Int) != 34)) else false else false) = isPl (UInt8.ofNat k) := by decide +kernel
 intro k hk
 rw [← this k hk]
 cases decide (((UInt8.ofNat k).toNat : Int) > 32)
 ·rfl
 ·cases decide (((UInt8.ofNat k).toNat : Int) ≤ 126) <;> rfl
theorem QgC (s : Bs) (hs : s.length ≤ 281474976710656) : Ret lb Qai [.str s, .fn Qcd] (.bool (s.all fun c => isDg c)) := by
 refine .top rfl (.eq (fun n => by rw [QiL]) ?_)
 refine Evt.diag (m := s.length) (Qgg hs (P := fun p t n k => QcE lb n k s (p.length : Int) = some (.bool (t.all fun c => isDg c))) ?_ ?_ s [] rfl)
 ·refine .all fun n k => ?_
  rw [QdR, decF (by omega), cond_false, QhL]
  rfl
 ·intro p c t hp hlt hat hw hev
  refine hev.imp2 (Qky lb c) fun n hn hc k hk => ?_
  rw [QdR]
  simp only [hlt, decide_true, cond_true, hat, Qaf, hc, Qbc, hw, List.all_cons]
  cases (isDg c)
  ·rfl
  ·simpa using hn k hk
theorem Qkf (s : Bs) (hs : s.length ≤ 281474976710656) : Ret lb Qai [.str s, .fn Qb7] (.bool (s.all fun c => isUp c)) := by
 refine .top rfl (.eq (fun n => by rw [Qh7]) ?_)
 refine Evt.diag (m := s.length) (Qgg hs (P := fun p t n k => Qcm lb n k s (p.length : Int) = some (.bool (t.all fun c => isUp c))) ?_ ?_ s [] rfl)
 ·refine .all fun n k => ?_
  rw [QdA, decF (by omega), cond_false, QgQ]
  rfl
 ·intro p c t hp hlt hat hw hev
  refine hev.imp2 (Qjd lb c) fun n hn hc k hk => ?_
  rw [QdA]
  simp only [hlt, decide_true, cond_true, hat, Qaf, hc, Qbc, hw, List.all_cons]
  cases (isUp c)
  ·rfl
  ·simpa using hn k hk
theorem QkB (s : Bs) (hs : s.length ≤ 281474976710656) : Ret lb Qai [.str s, .fn QcN] (.bool (s.all fun c => isUp c || isDg c)) := by
 refine .top rfl (.eq (fun n => by rw [Qis]) ?_)
 refine Evt.diag (m := s.length) (Qgg hs (P := fun p t n k => Qcv lb n k s (p.length : Int) = some (.bool (t.all fun c => isUp c || isDg c))) ?_ ?_ s [] rfl)
 ·refine .all fun n k => ?_
  rw [QdG, decF (by omega), cond_false, QgZ]
  rfl
 ·intro p c t hp hlt hat hw hev
  refine hev.imp2 (QpD lb c) fun n hn hc k hk => ?_
  rw [QdG]
  simp only [hlt, decide_true, cond_true, hat, Qaf, hc, Qbc, hw, List.all_cons]
  cases (isUp c || isDg c)
  ·rfl
  ·simpa using hn k hk
theorem Qkg (s : Bs) (hs : s.length ≤ 281474976710656) : Ret lb Qai [.str s, .fn Qct] (.bool (s.all fun c => isPl c)) := by
 refine .top rfl (.eq (fun n => by rw [Qh5]) ?_)
 refine Evt.diag (m := s.length) (Qgg hs (P := fun p t n k => Qcj lb n k s (p.length : Int) = some (.bool (t.all fun c => isPl c))) ?_ ?_ s [] rfl)
 ·refine .all fun n k => ?_
  rw [Qdz, decF (by omega), cond_false, QgP]
  rfl
 ·intro p c t hp hlt hat hw hev
  refine hev.imp2 (Qow lb c) fun n hn hc k hk => ?_
  rw [Qdz]
  simp only [hlt, decide_true, cond_true, hat, Qaf, hc, Qbc, hw, List.all_cons]
  cases (isPl c)
  ·rfl
  ·simpa using hn k hk
theorem QcR (s : Bs) (hs : s.length ≤ 281474976710656) : Ret lb QeX [.str s] (.bool (Qce s)) := by
 refine .top rfl (.eq (fun n => by rw [Qru]) ?_)
 unfold Qce
 cases s with
 | nil => exact .done
 | cons c t =>
  simp only [show (c :: t == []) = false from rfl, Bool.not_false, cond_true, List.isEmpty_cons, Bool.true_and]
  exact .call (Qkg lb (c :: t) hs) .done
theorem QrD (s : Bs) (hs : s.length ≤ 281474976710656) : Ret lb Qb4 [.str s] (.bool (Qce s)) := by
 refine .top rfl (.eq (fun n => by rw [Qsj]) ?_)
 refine Evt.diag (m := s.length) (Qgg hs (P := fun p t n k => QgK lb n k s (p.length : Int) = some (.bool (!s.isEmpty && t.all isPl))) ?_ ?_ s [] rfl)
 ·refine .all fun n k => ?_
  rw [Qii, decF (by omega), cond_false, Qp1]
  cases s <;> rfl
 ·intro p c t hp hlt hat hw hev
  refine hev.mono fun n hn k hk => ?_
  have hn := hn k hk
  rw [← hw] at hn
  rw [Qii]
  simp only [hlt, decide_true, cond_true, hat, Qaf, List.all_cons]
  by_cases h1 : c.toNat < 33
  ·rw [decT (by omega), cond_true, show isPl c = false by simp [isPl]; omega]; simp
  rw [decF (by omega), cond_false]
  by_cases h2 : 126 < c.toNat
  ·rw [decT (by omega), cond_true, show isPl c = false by simp [isPl]; omega]; simp
  rw [decF (by omega), cond_false]
  by_cases h3 : c.toNat = 34
  ·rw [beqT (by omega), cond_true, show isPl c = false by simp [isPl, h3]]; simp
  rw [beqF (by omega), cond_false, show isPl c = true by simp [isPl, h3]; omega, Bool.true_and]
  exact hn
theorem QoO (s : Bs) (m : Int) (hs : s.length ≤ 281474976710656) : Ret lb QbA [.str s, .int .i64 m] (.bool (s.all isUp && ((s.length : Int) == m))) := by
 refine .top rfl (.eq (fun n => by rw [QqA]) ?_)
 refine Evt.diag (m := s.length) (Qgg hs (P := fun p t n k => Qfn lb n k s m (p.length : Int) = some (.bool (t.all isUp && ((s.length : Int) == m)))) ?_ ?_ s [] rfl)
 ·refine .all fun n k => ?_
  rw [QgR, decF (by omega), cond_false, Qnx]
  rfl
 ·intro p c t hp hlt hat hw hev
  refine hev.imp2 (QfT lb c) fun n hn hc k hk => ?_
  rw [QgR]
  simp only [hlt, decide_true, cond_true, hat, Qaf, hc, Qbc, hw, List.all_cons]
  cases isUp c
  ·rfl
  ·simpa using hn k hk
def Qa2 (s : Bs) : Bool := decide (s.length = 3) && s.all isUp
theorem QiW (s : Bs) (hs : s.length ≤ 281474976710656) : Ret lb Qcq [.str s] (.bool (Qa2 s)) := by
 refine .top rfl (.eq (fun n => by rw [QoY]) ?_)
 unfold Qa2
 by_cases h : s.length = 3
 ·simp only [beqT (show (s.length : Int) = 3 by omega), cond_true, h, decide_true, Bool.true_and]
  exact .call (Qkf lb s hs) .done
 ·simp only [beqF (show (s.length : Int) ≠ 3 by omega), cond_false, h, decide_false, Bool.false_and]
  exact .of trivial
theorem Qjn (s : Bs) (hs : s.length ≤ 281474976710656) : Ret lb Qb6 [.str s] (.bool (Qa2 s)) := by
 refine .top rfl (.eq (fun n => by rw [Qqt]) ?_)
 refine .call (QoO lb s 3 hs) ?_
 refine .of ?_
 unfold Qa2
 rw [Bool.and_comm, show decide (s.length = 3) = ((s.length : Int) == 3) by
  by_cases h : s.length = 3
  ·rw [beqT (by omega), decT h]
  ·rw [beqF (by omega), decF h]]
def isCd (c : UInt8) : Bool := isUp c || isDg c
def Qbs (s : Bs) (a b : Int) : Bool := decide ((s.length : Int) ≥ a) && (decide ((s.length : Int) ≤ b) && s.all isCd)
theorem Qh4 (s : Bs) (a b : Int) (hs : s.length ≤ 281474976710656) : Ret lb QcT [.str s, .int .i64 a, .int .i64 b] (.bool (Qbs s a b)) := by
 refine .top rfl (.eq (fun n => by rw [QsK]) ?_)
 unfold Qbs
 cases decide ((s.length : Int) ≥ a)
 ·exact .done
 cases decide ((s.length : Int) ≤ b)
 ·exact .done
 exact .call (QkB lb s hs) .done
theorem QiH (s : Bs) (a b : Int) (hs : s.length ≤ 281474976710656) : Ret lb Qbb [.str s, .int .i64 a, .int .i64 b] (.bool (Qbs s a b)) := by
 refine .top rfl (.eq (fun n => by rw [QtI]) ?_)
 unfold Qbs
 refine Evt.diag (m := s.length) (Qgg hs (P := fun p t n k => Qfx lb n k s a b (p.length : Int) = some (.bool (decide ((s.length : Int) ≥ a) && (decide ((s.length : Int) ≤ b) && t.all isCd)))) ?_ ?_ s [] rfl)
 ·refine .all fun n k => ?_
  rw [Qjc, decF (by omega), cond_false, QqE]
  cases decide ((s.length : Int) ≥ a) <;> simp
 ·intro p c t hp hlt hat hw hev
  refine (hev.and (Qh1 lb c)).imp2 (QfT lb c) fun n ⟨hn, hd⟩ hc k hk => ?_
  have hn := hn k hk
  rw [Qjc]
  simp only [hlt, decide_true, cond_true, hat, Qaf, hc, hd, Qbc, hw, List.all_cons, isCd] at hn ⊢
  cases isUp c
  ·cases isDg c
   ·simp
   ·simpa using hn
  ·simpa using hn
def Qa1 (s : Bs) : Bool := Qbs s 2 2 && !s.all isDg
theorem Qje (s : Bs) (hs : s.length ≤ 281474976710656) : Ret lb Qfh [.str s] (.bool (Qa1 s)) := by
 refine .top rfl (.eq (fun n => by rw [QpJ]) ?_)
 refine .call (Qh4 lb s 2 2 hs) ?_
 simp only [Qaf, Qbc]
 unfold Qa1
 cases Qbs s 2 2
 ·exact .done
 ·simp only [cond_true, Bool.true_and]
  exact .call (QgC lb s hs) .done
theorem QxE (c : UInt8) (h : isCd c = true) : isDg c = !isUp c := by
 revert h; revert c; refine Qep ?_; decide +kernel
theorem QjW (s : Bs) (hs : s.length ≤ 281474976710656) : Ret lb QfQ [.str s] (.bool (Qa1 s)) := by
 refine .top rfl (.eq (fun n => by rw [Qqe]) ?_)
 refine .call (QiH lb s 2 2 hs) ?_
 simp only [Qaf, Qbc]
 unfold Qa1
 cases h : Qbs s 2 2
 ·exact .done
 ·simp only [cond_true, Bool.true_and]
  unfold Qbs at h
  simp only [Bool.and_eq_true, decide_eq_true_eq] at h
  obtain ⟨h1, h2, h3⟩ := h
  match s, h1, h2, h3 with
  | [x, y], _, _, h3 =>
   simp only [List.all_cons, List.all_nil, Bool.and_true, Bool.and_eq_true] at h3
   simp only [show atS [x, y] 0 = some x from rfl, show atS [x, y] 1 = some y from rfl, Qaf, List.all_cons, List.all_nil, Bool.and_true, QxE x h3.1, QxE y h3.2]
   refine .call (QfT lb x) ?_
   simp only [Qaf, Qbc]
   cases isUp x
   ·simp only [cond_false]
    refine .call (QfT lb y) ?_
    exact .of (by simp)
   ·exact .done
  | [], h1, h2, _ => simp at h1
  | [x], h1, h2, _ => simp at h1
  | x :: y :: z :: r, h1, h2, _ => simp at h2; omega
end Go.Proofs
set_option linter.unusedSimpArgs false
namespace Go.Proofs
open Go.Am
variable (lb : Nat)
def hxV (c : UInt8) : Int := match hexV c with
 | some n => n
 | none => -1
theorem Qwz (c : UInt8) : Lib.indexByte [48, 49, 50, 51, 52, 53, 54, 55, 56, 57, 97, 98, 99, 100, 101, 102] c = hxV c := by
 revert c; refine Qep ?_; decide +kernel
theorem QqL (c : UInt8) : ∀ (m i : Nat), i + m = 16 → (∀ j, j < i → c ≠ hexB j) → Evt fun n => ∀ k, m < k → Qik lb n k (c.toNat : Int) (i : Int) = some (.int .i64 (hxV c))
 | 0, i, h, hj => .all fun n k hk => by
  obtain ⟨k, rfl⟩ : ∃ m, k = m + 1 := ⟨k - 1, by omega⟩
  rw [Qgi, decF (by omega), cond_false, QrG]
  have : hexV c = none := by
   cases hv : hexV c with
   | none => rfl
   | some n => obtain ⟨h1, h2⟩ := Qf9 hv; exact (hj n (by omega) h1).elim
  simp [hxV, this]
 | m + 1, i, h, hj => by
  have hi : i < 16 := by omega
  by_cases hc : c = hexB i
  ·refine .all fun n k hk => ?_
   obtain ⟨k, rfl⟩ : ∃ m, k = m + 1 := ⟨k - 1, by omega⟩
   rw [Qgi, decT (by omega), cond_true, QkD i hi, Qaf, beqT (by rw [hc]), cond_true]
   simp [hxV, hc, Qhz i hi]
  ·refine (QqL c m (i + 1) (by omega) fun j hj' => ?_).mono fun n hn k hk => ?_
   ·by_cases q : j = i
    ·subst q; exact hc
    ·exact hj j (by omega)
   ·obtain ⟨k, rfl⟩ : ∃ m, k = m + 1 := ⟨k - 1, by omega⟩
    have hne : (hexB i).toNat ≠ c.toNat := fun q => hc (QbQ q.symm)
    rw [Qgi, decT (by omega), cond_true, QkD i hi, Qaf, beqF (by omega), cond_false, Qag (by omega) (by omega)]
    exact hn k (by omega)
theorem QdO (c : UInt8) : Ret lb QbW [.int .u8 (c.toNat : Int)] (.int .i64 (hxV c)) :=
 .top rfl (.eq (fun n => by rw [Qvf]; rfl) (Evt.diag (QqL lb c 16 0 rfl (fun j h => by omega))))
theorem Qsn (c : UInt8) : Ret lb QcQ [.str [48, 49, 50, 51, 52, 53, 54, 55, 56, 57, 97, 98, 99, 100, 101, 102], .int .u8 (c.toNat : Int)] (.int .i64 (hxV c)) := by
 refine .lib rfl ?_
 simp only [QfN, Int.toNat_natCast]
 rw [show c.toNat.toUInt8 = c from by simp, Qwz]
theorem Qj2 (c : UInt8) : (hexV c = none ∧ hxV c = -1) ∨ ∃ n, hexV c = some n ∧ n < 16 ∧ hxV c = n := by
 cases h : hexV c with
 | none => exact .inl ⟨rfl, by simp [hxV, h]⟩
 | some n => exact .inr ⟨n, rfl, (Qf9 h).2, by simp [hxV, h]⟩
theorem Qy7 : ∀ a, a < 16 → ∀ b, b < 16 → IntKind.wrap .u8 (IntKind.wrap .i64 ((BitVec.ofInt 64 (IntKind.wrap .i64 ((a : Nat) * 2 ^ 4)) ||| BitVec.ofInt 64 (b : Nat)).toNat)) = ((16 * a + b : Nat) : Int) := by decide +kernel
def escR (t : Bs) : Nat × Nat := match t with
 | [] => (0, 0)
 | d :: r => if d.toNat = 34 ∨ d.toNat = 92 then (d.toNat, 1) else if d.toNat = 120 then
   match r with
   | h :: l :: _ => match hexV h, hexV l with
    | some a, some b => if 32 ≤ 16 * a + b ∧ 16 * a + b ≤ 126 then (0, 0) else (16 * a + b, 3)
    | _, _ => (0, 0)
   | _ => (0, 0)
  else (0, 0)
theorem QwN (t : Bs) : (escR t).2 ≤ t.length ∧ (escR t).2 ≤ 3 ∧ (escR t).1 < 256 := by
 unfold escR
 split
 ·simp
 rename_i d r
 have := d.toNat_lt
 split
 ·exact ⟨by simp, by simp, by simpa using this⟩
 split
 ·split
  ·split
   ·rename_i a b ha hb
    have := (Qf9 ha).2
    have := (Qf9 hb).2
    split
    ·simp
    ·exact ⟨by simp only [List.length_cons]; omega, by simp, by simp only; omega⟩
   ·simp
  ·simp
 ·simp
theorem Qyc (r : Bs) : unqI (92 :: r) = if (escR r).2 = 0 then none else (unqI (r.drop (escR r).2)).map (UInt8.ofNat (escR r).1 :: ·) := by
 rw [Qe4, if_neg (by decide), if_pos (by decide)]
 match r with
 | [] => simp [escR]
 | d :: r' =>
  simp only [escR]
  by_cases h1 : d.toNat = 34 ∨ d.toNat = 92
  ·simp [h1]
  ·simp only [h1, if_false]
   by_cases h2 : d.toNat = 120
   ·simp only [h2, if_true]
    match r' with
    | [] => simp
    | [x] => simp
    | x :: y :: r'' =>
     simp only
     cases hx : hexV x with
     | none => simp
     | some a =>
      cases hy : hexV y with
      | none => simp
      | some b =>
       simp only
       by_cases h3 : 32 ≤ 16 * a + b ∧ 16 * a + b ≤ 126
       ·simp [h3]
       ·simp [h3]
   ·simp [h2]
theorem QjP (t : Bs) (ht : t.length ≤ 1000000000) : Ret lb QhZ [.str t] (.tup [.int .u8 ((escR t).1 : Int), .int .i64 ((escR t).2 : Int)]) := by
 refine .top rfl (.eq (fun n => by rw [QqC]) ?_)
 match t, ht with
 | [], _ => exact .done
 | d :: r, ht =>
  simp only [show (d :: r == ([] : Bs)) = false from rfl, cond_false, show atS (d :: r) 0 = some d from rfl, Qaf]
  unfold escR
  by_cases h1 : d.toNat = 34
  ·simp only [beqT (show (d.toNat : Int) = 34 by omega), cond_true]
   simp only [h1, true_or, if_true]
   refine .of ?_; first | rfl | simp
  simp only [beqF (show (d.toNat : Int) ≠ 34 by omega), cond_false]
  by_cases h2 : d.toNat = 92
  ·simp only [beqT (show (d.toNat : Int) = 92 by omega), cond_true]
   simp only [h2, or_true, if_true]
   refine .of ?_; first | rfl | simp
  simp only [beqF (show (d.toNat : Int) ≠ 92 by omega), cond_false, h1, h2, or_self, if_false]
  by_cases h3 : d.toNat = 120
  ·simp only [bneF (show (d.toNat : Int) = 120 by omega), cond_false]
   simp only [h3, if_true]
   match r, ht with
   | [], _ => exact .of rfl
   | [x], _ => exact .of rfl
   | x :: y :: r', _ =>
    simp only [decF (show ¬ ((d :: x :: y :: r' : Bs).length : Int) < 3 by simp only [List.length_cons]; omega), cond_false, show atS (d :: x :: y :: r') 1 = some x from rfl, show atS (d :: x :: y :: r') 2 = some y from rfl, Qaf]
    refine .call (Qsn lb x) ?_
    refine .call (Qsn lb y) ?_
    simp only [Qaf, Qae]
    rcases Qj2 x with ⟨hx, ex⟩ | ⟨a, hx, ha, ex⟩
    ·simp only [hx, ex]
     refine .of ?_; first | rfl | simp
    rcases Qj2 y with ⟨hy, ey⟩ | ⟨b, hy, hb, ey⟩
    ·simp only [hx, hy, ex, ey, decF (show ¬ (a : Int) < 0 by omega), cond_false]
     refine .of ?_; first | rfl | simp
    simp only [hx, hy, ex, ey, decF (show ¬ (a : Int) < 0 by omega), decF (show ¬ (b : Int) < 0 by omega), cond_false, Qy7 a ha b hb]
    by_cases h4 : 32 ≤ 16 * a + b
    ·rw [decT (show ((16 * a + b : Nat) : Int) ≥ 32 by omega), cond_true]
     by_cases h5 : 16 * a + b ≤ 126
     ·rw [decT (show ((16 * a + b : Nat) : Int) ≤ 126 by omega), cond_true, if_pos ⟨h4, h5⟩]
      exact .of rfl
     ·rw [decF (show ¬ ((16 * a + b : Nat) : Int) ≤ 126 by omega), cond_false, if_neg (by omega)]
      exact .of rfl
    ·rw [decF (show ¬ ((16 * a + b : Nat) : Int) ≥ 32 by omega), cond_false, if_neg (by omega)]
     exact .of rfl
  ·simp only [bneT (show (d.toNat : Int) ≠ 120 by omega), cond_true, h3, if_false]
   refine .of ?_; first | rfl | simp
def unqR (o : Option Bs) : CV := match o with
 | some b => .tup [.str b, .int .i64 0]
 | none => .tup [.str [], .int .i64 3]
theorem QoI (s inner : Bs) (hs : inner.length ≤ 1000000000) (he : (s.take ((IntKind.wrap .i64 ((s.length : Int) - 1)).toNat)).drop 1 = inner) :
  ∀ (N : Nat) (t p b : Bs), t.length ≤ N → p ++ t = inner → b.length ≤ p.length → Evt fun n => ∀ k, t.length < k → QdL lb n k s (bcv b) (p.length : Int) = some (unqR ((unqI t).map (b ++ ·)))
 | N, [], p, b, hN, hp, hb => .all fun n k hk => by
  obtain ⟨k, rfl⟩ : ∃ m, k = m + 1 := ⟨k - 1, by simp at hk; omega⟩
  have : p = inner := by simpa using hp
  rw [Qcy, he, decF (by rw [this]; omega), cond_false, Qmg, QeC]
  simp [Qaf, unqR, unqI]
 | 0, c :: t, p, b, hN, _, _ => by simp at hN
 | N + 1, c :: t, p, b, hN, hp, hb => by
  have hl : inner.length = p.length + (t.length + 1) := by rw [← hp]; simp
  have hat : atS inner (p.length : Int) = some c := Qb8 (by rw [← hp]; simp)
  have hlt : (p.length : Int) < (inner.length : Int) := by omega
  have hw : IntKind.wrap .i64 ((p.length : Int) + 1) = ((p ++ [c]).length : Int) := by rw [Qag (by omega) (by omega)]; simp
  have r1 : room ((bcv b).length + 1) 1 = true := Qbf (by rw [QdB]; omega)
  by_cases hbad : c.toNat = 34 ∨ c.toNat < 32 ∨ 126 < c.toNat
  ·refine .all fun n k hk => ?_
   obtain ⟨k, rfl⟩ : ∃ m, k = m + 1 := ⟨k - 1, by simp at hk; omega⟩
   rw [Qcy, he]
   simp only [hlt, decide_true, cond_true, hat, Qaf, Qe4, hbad, if_true, Option.map_none, unqR]
   by_cases h1 : c.toNat = 34
   ·rw [beqT (by omega), cond_true]
   rw [beqF (by omega), cond_false]
   by_cases h2 : c.toNat < 32
   ·rw [decT (by omega), cond_true]
   rw [decF (by omega), cond_false, decT (by omega), cond_true]
  ·have hg : ∀ {x y : Option CV}, (bif ((c.toNat : Int) == 34) then x else bif (decide ((c.toNat : Int) < 32)) then x else bif (decide ((c.toNat : Int) > 126)) then x else y) = y := by
    intro x y
    rw [beqF (by omega), cond_false, decF (by omega), cond_false, decF (by omega), cond_false]
   by_cases h92 : c.toNat = 92
   ·have ec : c = 92 := QbQ h92
    have hr : (inner.take ((inner.length : Int)).toNat).drop ((p ++ [c]).length : Int).toNat = t := by
     rw [Int.toNat_natCast, Int.toNat_natCast, List.take_length, ← hp, show p ++ c :: t = (p ++ [c]) ++ t by simp, List.drop_left]
    obtain ⟨e1, e2, e3⟩ := QwN t
    have hu := Qyc t
    by_cases h0 : (escR t).2 = 0
    ·refine (QjP lb t (by omega)).mono fun n hn k hk => ?_
     obtain ⟨k, rfl⟩ : ∃ m, k = m + 1 := ⟨k - 1, by simp at hk; omega⟩
     rw [Qcy, he]
     simp only [hlt, decide_true, cond_true, hat, Qaf, hg, beqT (show (c.toNat : Int) = 92 by omega), hw, hr, hn, QbI, get0, get1, Qae]
     rw [decT (by simp; omega), Qav, beqT (by omega), cond_true, ec, hu, if_pos h0]
     rfl
    ·have hd : (p ++ [c] ++ t.take (escR t).2) ++ t.drop (escR t).2 = inner := by
      rw [List.append_assoc, List.take_append_drop, ← hp]; simp
     have hlen : (p ++ [c] ++ t.take (escR t).2).length = p.length + 1 + (escR t).2 := by simp; omega
     refine (QoI s inner hs he N (t.drop (escR t).2) _ (b ++ [UInt8.ofNat (escR t).1]) (by simp at hN ⊢; omega) hd (by rw [hlen]; simp; omega)).imp2 (QjP lb t (by omega)) fun n hn hesc k hk => ?_
     obtain ⟨k, rfl⟩ : ∃ m, k = m + 1 := ⟨k - 1, by simp at hk; omega⟩
     have hn := hn k (by simp at hk ⊢; omega)
     rw [hlen] at hn
     rw [Qcy, he]
     simp only [hlt, decide_true, cond_true, hat, Qaf, hg, beqT (show (c.toNat : Int) = 92 by omega), hw, hr, hesc, QbI, get0, get1, Qae, Qba, r1, Qav]
     rw [decT (by simp; omega), Qav, beqF (by omega), cond_false, Qag (x := (p.length : Int) + ((escR t).2 : Int)) (by omega) (by omega), Qag (by omega) (by omega), ec, hu, if_neg h0]
     have e5 : bcv b ++ [[CV.int .u8 ((escR t).1 : Int)]] = bcv (b ++ [UInt8.ofNat (escR t).1]) := by
      simp [bcv, Nat.mod_eq_of_lt e3]
     rw [e5, show (p.length : Int) + ((escR t).2 : Int) + 1 = ((p.length + 1 + (escR t).2 : Nat) : Int) by omega, hn]
     cases unqI (t.drop (escR t).2) <;> simp
   ·have hd : (p ++ [c]) ++ t = inner := by rw [← hp]; simp
    refine (QoI s inner hs he N t (p ++ [c]) (b ++ [c]) (by simp at hN; omega) hd (by simp; omega)).mono fun n hn k hk => ?_
    obtain ⟨k, rfl⟩ : ∃ m, k = m + 1 := ⟨k - 1, by simp at hk; omega⟩
    have hn := hn k (by simp at hk; omega)
    rw [Qcy, he]
    simp only [hlt, decide_true, cond_true, hat, Qaf, hg, beqF (show (c.toNat : Int) ≠ 92 by omega), cond_false, r1, Qav, hw]
    rw [show bcv b ++ [[CV.int .u8 (c.toNat : Int)]] = bcv (b ++ [c]) by simp [bcv], hn, Qe4, if_neg hbad, if_neg h92]
    cases unqI t <;> simp
theorem Qf5 (s : Bs) (hs : s.length ≤ 1000000000) : Ret lb Qbm [.str s] (unqR (unq s)) := by
 refine .top rfl (.eq (fun n => by rw [QpA]) ?_)
 unfold unq
 by_cases h2 : s.length < 2
 ·rw [if_neg (by omega)]
  simp only [decT (show (s.length : Int) < 2 by omega), cond_true]
  exact .done
 simp only [decF (show ¬ (s.length : Int) < 2 by omega), cond_false]
 have hw : IntKind.wrap .i64 ((s.length : Int) - 1) = ((s.length - 1 : Nat) : Int) := by rw [Qag (by omega) (by omega)]; omega
 obtain ⟨x, hx⟩ : ∃ x, s[0]? = some x := ⟨s[0], List.getElem?_eq_getElem (by omega)⟩
 obtain ⟨y, hy⟩ : ∃ y, s[s.length - 1]? = some y := ⟨s[s.length - 1], List.getElem?_eq_getElem (by omega)⟩
 have hx' : atS s 0 = some x := Qb8 (i := 0) hx
 have hy' : atS s ((s.length - 1 : Nat) : Int) = some y := Qb8 hy
 have hh : s.head? = some x := by rw [List.head?_eq_getElem?]; exact hx
 have hg : s.getLast? = some y := by rw [List.getLast?_eq_getElem?]; exact hy
 rw [hh, hg]
 simp only [hx', Qaf]
 by_cases h34 : x = 34
 ·simp only [bneF (show (x.toNat : Int) = 34 by rw [h34]; rfl), cond_false, hw, hy', Qaf]
  by_cases h35 : y = 34
  ·rw [if_pos ⟨by omega, by rw [h34], by rw [h35]⟩]
   simp only [bneF (show (y.toNat : Int) = 34 by rw [h35]; rfl), cond_false]
   have hin : (s.take ((s.length - 1 : Nat) : Int).toNat).drop 1 = (s.take (s.length - 1)).drop 1 := by simp
   have hil : ((s.take (s.length - 1)).drop 1).length = s.length - 2 := by simp; omega
   refine .chk (decT ⟨by omega, by omega⟩) (.chk (decT ⟨by omega, by omega⟩) (.chk ?_ ?_))
   ·rw [hin, hil]; simp; omega
   ·have := QoI lb s ((s.take (s.length - 1)).drop 1) (by omega) (by rw [hw, hin]) _ _ [] [] (Nat.le_refl _) rfl (Nat.le_refl _)
    refine (Evt.diag this).mono fun n hn => Eq.trans hn ?_
    cases unqI ((s.take (s.length - 1)).drop 1) <;> simp
  ·rw [if_neg (by rintro ⟨_, _, q⟩; exact h35 (by simpa using q))]
   have : y.toNat ≠ 34 := fun q => h35 (QbQ q)
   simp only [bneT (show (y.toNat : Int) ≠ 34 by omega), cond_true]
   exact .done
 ·rw [if_neg (by rintro ⟨_, q, _⟩; exact h34 (by simpa using q))]
  have : x.toNat ≠ 34 := fun q => h34 (QbQ q)
  simp only [bneT (show (x.toNat : Int) ≠ 34 by omega), cond_true]
  exact .done
end Go.Proofs
set_option linter.unusedSimpArgs false
namespace Go.Proofs
open Go.Am
variable (lb : Nat)
theorem Qhb {s X Y : Bs} {c : UInt8} {i : Int} (hs : s = X ++ c :: Y) (h : i = (X.length : Int)) : atS s i = some c := by
 subst hs; subst h
 exact Qb8 (by simp)
theorem hex2 (c : UInt8) : IntKind.wrap .u8 (IntKind.wrap .i64 (IntKind.wrap .i64 (16 * ((c.toNat / 16 : Nat) : Int)) + ((c.toNat % 16 : Nat) : Int))) = (c.toNat : Int) := by
 revert c
 refine Qep ?_
 decide +kernel
theorem uend (s a : Bs) (bn : Bool) (i : Int) (ha : a.length ≤ 1000000000) (hi : ¬ i < IntKind.wrap .i64 ((s.length : Int) - 1)) :
  Evt fun n => ∀ k, Qcs lb n (k + 1) s bn (bcv a) i = some (unqR (if quo a = s then some a else none)) := by
 refine (QlG lb a ha).mono fun n hn k => ?_
 rw [Qbw, decF hi, cond_false, Qnp, QeC, Qaf, hn, Qaf, QbO, Qaf]
 by_cases h : quo a = s
 ·rw [if_pos h, h]
  simp [unqR, Qaf]
 ·rw [if_neg h, show (quo a == s) = false by simpa using h]
  simp [unqR]
theorem QxN (b : Bs) (hb : b.length ≤ 100000000) : ∀ (t a : Bs) (bn : Bool), a ++ t = b → Evt fun n => ∀ k, t.length < k →
  Qcs lb n k (quo b) bn (bcv a) ((1 + (a.flatMap esc).length : Nat) : Int) = some (unqR (some b))
 | [], a, bn, h => by
  have : a = b := by simpa using h
  subst this
  have hq : (quo a).length = 2 + (a.flatMap esc).length := by simp only [quo, List.length_cons, List.length_append, List.length_nil]; omega
  have hf := Qeh a
  have hwq : IntKind.wrap .i64 (((quo a).length : Int) - 1) = ((quo a).length : Int) - 1 := Qag (by omega) (by omega)
  refine (uend lb (quo a) a bn ((1 + (a.flatMap esc).length : Nat) : Int) (by omega) (by rw [hwq]; omega)).mono fun n hn k hk => ?_
  obtain ⟨k, rfl⟩ : ∃ m, k = m + 1 := ⟨k - 1, by simp at hk; omega⟩
  rw [hn k, if_pos rfl]
 | c :: t, a, bn, h => by
  have hf := Qeh b
  have hall : b.length = a.length + (t.length + 1) := by rw [← h]; simp
  have hsplit : quo b = (34 :: a.flatMap esc) ++ (esc c ++ (t.flatMap esc ++ [34])) := by rw [← h]; simp [quo]
  have hlen : (quo b).length = 1 + (a.flatMap esc).length + ((esc c).length + ((t.flatMap esc).length + 1)) := by
   rw [hsplit]; simp only [List.length_cons, List.length_append, List.length_nil]; omega
  have hqb : (quo b).length ≤ 400000002 := by have := Qhf b; omega
  have hw1 : IntKind.wrap .i64 (((quo b).length : Int) - 1) = ((quo b).length : Int) - 1 := Qag (by omega) (by omega)
  have hfa := Qeh a
  have r1 : room ((bcv a).length + 1) 1 = true := Qbf (by rw [QdB]; omega)
  refine (QxN b hb t (a ++ [c]) (bn && false) (by rw [← h]; simp)).imp2 ((QdO lb (hexB (c.toNat / 16))).and (QdO lb (hexB (c.toNat % 16)))) fun n hn ⟨hh1, hh2⟩ k hk => ?_
  obtain ⟨k, rfl⟩ : ∃ m, k = m + 1 := ⟨k - 1, by simp at hk; omega⟩
  have hn := hn k (by simp at hk; omega)
  have hfl : ((a ++ [c]).flatMap esc).length = (a.flatMap esc).length + (esc c).length := by simp
  rw [hfl] at hn
  have hc : c.toNat < 256 := c.toNat_lt
  have hX : (34 :: a.flatMap esc : Bs).length = 1 + (a.flatMap esc).length := by rw [List.length_cons]; omega
  have el := Qup c
  rw [Qbw, hw1, decT (by omega), cond_true]
  generalize (a.flatMap esc).length = m at hX hlen hn hfa ⊢
  by_cases h1 : c.toNat = 34 ∨ c.toNat = 92
  ·have he : esc c = [92, c] := by simp [esc, h1]
   rw [he] at hsplit hn hlen
   have e0 : atS (quo b) ((1 + m : Nat) : Int) = some 92 := Qhb (X := 34 :: a.flatMap esc) (Y := c :: (t.flatMap esc ++ [34])) (by rw [hsplit]; rfl) (by rw [hX])
   have e1 : atS (quo b) ((1 + m : Nat) + 1 : Int) = some c := Qhb (X := 34 :: a.flatMap esc ++ [92]) (Y := t.flatMap esc ++ [34]) (by rw [hsplit]; simp) (by rw [List.length_append, hX]; simp)
   rw [e0, Qaf, bneF (by decide), cond_false, Qag (by omega) (by omega), e1, Qaf, bneT (by omega), cond_true, Qaf, r1, Qav, Qag (by omega) (by omega)]
   rw [show bcv a ++ [[CV.int .u8 (c.toNat : Int)]] = bcv (a ++ [c]) by simp [bcv], show ((1 + m : Nat) : Int) + 1 + 1 = ((1 + (m + ([92, c] : Bs).length) : Nat) : Int) by simp only [List.length_cons, List.length_nil]; omega]
   exact hn
  by_cases h2 : c.toNat < 32 ∨ 126 < c.toNat
  ·have he : esc c = [92, 120, hexB (c.toNat / 16), hexB (c.toNat % 16)] := by simp [esc, h1, h2]
   rw [he] at hsplit hn hlen
   have hl4 : ([92, 120, hexB (c.toNat / 16), hexB (c.toNat % 16)] : Bs).length = 4 := rfl
   rw [hl4] at hlen hn
   have v1 : hxV (hexB (c.toNat / 16)) = ((c.toNat / 16 : Nat) : Int) := by simp [hxV, Qhz _ (show c.toNat / 16 < 16 by omega)]
   have v2 : hxV (hexB (c.toNat % 16)) = ((c.toNat % 16 : Nat) : Int) := by simp [hxV, Qhz _ (show c.toNat % 16 < 16 by omega)]
   have e0 : atS (quo b) ((1 + m : Nat) : Int) = some 92 := Qhb (X := 34 :: a.flatMap esc) (by rw [hsplit]; rfl) (by rw [hX])
   have e1 : atS (quo b) ((1 + m : Nat) + 1 : Int) = some 120 := Qhb (X := 34 :: a.flatMap esc ++ [92]) (Y := hexB (c.toNat / 16) :: hexB (c.toNat % 16) :: (t.flatMap esc ++ [34])) (by rw [hsplit]; simp) (by rw [List.length_append, hX]; simp)
   have e2 : atS (quo b) ((1 + m : Nat) + 1 + 1 : Int) = some (hexB (c.toNat / 16)) := Qhb (X := 34 :: a.flatMap esc ++ [92, 120]) (Y := hexB (c.toNat % 16) :: (t.flatMap esc ++ [34])) (by rw [hsplit]; simp) (by rw [List.length_append, hX]; simp; omega)
   have e3 : atS (quo b) ((1 + m : Nat) + 1 + 2 : Int) = some (hexB (c.toNat % 16)) := Qhb (X := 34 :: a.flatMap esc ++ [92, 120, hexB (c.toNat / 16)]) (Y := t.flatMap esc ++ [34]) (by rw [hsplit]; simp) (by rw [List.length_append, hX]; simp; omega)
   have w1 : IntKind.wrap .i64 (((1 + m : Nat) : Int) + 1) = ((1 + m : Nat) : Int) + 1 := Qag (by omega) (by omega)
   have w2 : IntKind.wrap .i64 (((1 + m : Nat) : Int) + 1 + 1) = ((1 + m : Nat) : Int) + 1 + 1 := Qag (by omega) (by omega)
   have w3 : IntKind.wrap .i64 (((1 + m : Nat) : Int) + 1 + 2) = ((1 + m : Nat) : Int) + 1 + 2 := Qag (by omega) (by omega)
   simp only [e0, e1, e2, e3, w1, w2, w3, Qaf, hh1, hh2, v1, v2, Qae, r1, Qav]
   rw [bneF (by decide), cond_false, bneF (by decide), cond_false, decF (by omega), cond_false, decF (by omega), cond_false, decF (by omega), cond_false, Qag (x := ((1 + m : Nat) : Int) + 1 + 2 + 1) (by omega) (by omega)]
   rw [hex2 c, show bcv a ++ [[CV.int .u8 (c.toNat : Int)]] = bcv (a ++ [c]) by simp [bcv], show ((1 + m : Nat) : Int) + 1 + 2 + 1 = ((1 + (m + 4) : Nat) : Int) by omega]
   exact hn
  ·have he : esc c = [c] := by simp [esc, h1, h2]
   rw [he] at hsplit hn hlen
   have e0 : atS (quo b) ((1 + m : Nat) : Int) = some c := Qhb (X := 34 :: a.flatMap esc) (Y := t.flatMap esc ++ [34]) (by rw [hsplit]; rfl) (by rw [hX])
   rw [e0, Qaf, bneT (by omega), cond_true, Qaf, r1, Qav, Qag (by omega) (by omega)]
   rw [show bcv a ++ [[CV.int .u8 (c.toNat : Int)]] = bcv (a ++ [c]) by simp [bcv], show ((1 + m : Nat) : Int) + 1 = ((1 + (m + ([c] : Bs).length) : Nat) : Int) by simp only [List.length_cons, List.length_nil]; omega]
   exact hn
theorem ubad (s : Bs) (hs : s.length ≤ 1000000000) (hbad : ∀ b, s ≠ quo b) : ∀ (N i : Nat) (a : Bs) (bn : Bool), s.length ≤ i + N → a.length ≤ i → i ≤ s.length + 4 → a.length ≤ 1000000000 →
  Evt fun n => ∀ k, N < k → Qcs lb n k s bn (bcv a) (i : Int) = some (unqR none)
 | N, i, a, bn, h, ha, hi, ha2 => by
  have hw1 : IntKind.wrap .i64 ((s.length : Int) - 1) = (s.length : Int) - 1 := Qag (by omega) (by omega)
  by_cases hlt : (i : Int) < (s.length : Int) - 1
  ·match N, h with
   | 0, h => omega
   | N + 1, h =>
    obtain ⟨c, hc⟩ : ∃ c, s[i]? = some c := ⟨s[i], List.getElem?_eq_getElem (by omega)⟩
    obtain ⟨d, hd⟩ : ∃ d, s[i + 1]? = some d := ⟨s[i + 1], List.getElem?_eq_getElem (by omega)⟩
    have e0 : atS s (i : Int) = some c := Qb8 hc
    have e1 : atS s ((i : Int) + 1) = some d := Qb8 (i := i + 1) hd
    have r1 : room ((bcv a).length + 1) 1 = true := Qbf (by rw [QdB]; omega)
    have w1 : IntKind.wrap .i64 ((i : Int) + 1) = (i : Int) + 1 := Qag (by omega) (by omega)
    have w2 : IntKind.wrap .i64 ((i : Int) + 1 + 1) = (i : Int) + 1 + 1 := Qag (by omega) (by omega)
    have w3 : IntKind.wrap .i64 ((i : Int) + 1 + 2) = (i : Int) + 1 + 2 := Qag (by omega) (by omega)
    by_cases h1 : c.toNat = 92
    ·by_cases h2 : d.toNat = 120
     ·by_cases h3 : (i : Int) + 1 + 2 ≥ (s.length : Int)
      ·refine .all fun n k hk => ?_
       obtain ⟨k, rfl⟩ : ∃ m, k = m + 1 := ⟨k - 1, by omega⟩
       rw [Qbw, hw1, decT hlt, cond_true, e0, Qaf, bneF (by omega), cond_false, w1, e1, Qaf, bneF (by omega), cond_false, w3, decT h3, cond_true]
       rfl
      ·obtain ⟨x, hx⟩ : ∃ x, s[i + 2]? = some x := ⟨s[i + 2], List.getElem?_eq_getElem (by omega)⟩
       obtain ⟨y, hy⟩ : ∃ y, s[i + 3]? = some y := ⟨s[i + 3], List.getElem?_eq_getElem (by omega)⟩
       have e2 : atS s ((i : Int) + 1 + 1) = some x := by rw [show (i : Int) + 1 + 1 = ((i + 2 : Nat) : Int) by omega]; exact Qb8 hx
       have e3 : atS s ((i : Int) + 1 + 2) = some y := by rw [show (i : Int) + 1 + 2 = ((i + 3 : Nat) : Int) by omega]; exact Qb8 hy
       rcases Qj2 x with ⟨_, vx⟩ | ⟨p, _, hp, vx⟩
       ·refine (QdO lb x).mono fun n hhx k hk => ?_
        obtain ⟨k, rfl⟩ : ∃ m, k = m + 1 := ⟨k - 1, by omega⟩
        rw [Qbw, hw1, decT hlt, cond_true, e0, Qaf, bneF (by omega), cond_false, w1, e1, Qaf, bneF (by omega), cond_false, w3, decF h3, cond_false, w2, e2, Qaf, hhx, Qaf, Qae, Qaf, decT (by omega), cond_true]
        rfl
       rcases Qj2 y with ⟨_, vy⟩ | ⟨q, _, hq, vy⟩
       ·refine (QdO lb x).imp2 (QdO lb y) fun n hhx hhy k hk => ?_
        obtain ⟨k, rfl⟩ : ∃ m, k = m + 1 := ⟨k - 1, by omega⟩
        rw [Qbw, hw1, decT hlt, cond_true, e0, Qaf, bneF (by omega), cond_false, w1, e1, Qaf, bneF (by omega), cond_false, w3, decF h3, cond_false, w2, e2, Qaf, hhx, Qaf, Qae, Qaf, decF (by omega), cond_false, e3, Qaf,
         hhy, Qaf, Qae, Qaf, decT (by omega), cond_true]
        rfl
       ·obtain ⟨z, hz⟩ : ∃ z : UInt8, IntKind.wrap .u8 (IntKind.wrap .i64 (IntKind.wrap .i64 (16 * (p : Int)) + (q : Int))) = (z.toNat : Int) := by
         refine ⟨UInt8.ofNat (16 * p + q), ?_⟩
         rw [Qag (x := 16 * (p : Int)) (by omega) (by omega), Qag (by omega) (by omega)]
         unfold IntKind.wrap
         simp [IntKind.bits, IntKind.signed]
        refine (ubad s hs hbad N (i + 4) (a ++ [z]) (bn && false) (by omega) (by simp; omega) (by omega) (by simp; omega)).imp2 ((QdO lb x).and (QdO lb y)) fun n hn ⟨hhx, hhy⟩ k hk => ?_
        obtain ⟨k, rfl⟩ : ∃ m, k = m + 1 := ⟨k - 1, by omega⟩
        rw [Qbw]
        simp only [hw1, decT hlt, cond_true, e0, e1, e2, e3, w1, w2, w3, Qaf, hhx, hhy, Qae, r1, Qav]
        rw [bneF (by omega), cond_false, bneF (by omega), cond_false, decF h3, cond_false, decF (by omega), cond_false, decF (by omega), cond_false, vx, vy, hz, Qag (by omega) (by omega)]
        rw [show bcv a ++ [[CV.int .u8 (z.toNat : Int)]] = bcv (a ++ [z]) by simp [bcv], show (i : Int) + 1 + 2 + 1 = ((i + 4 : Nat) : Int) by omega]
        exact hn k (by omega)
     ·refine (ubad s hs hbad N (i + 2) (a ++ [d]) (bn && false) (by omega) (by simp; omega) (by omega) (by simp; omega)).mono fun n hn k hk => ?_
      obtain ⟨k, rfl⟩ : ∃ m, k = m + 1 := ⟨k - 1, by omega⟩
      rw [Qbw, hw1, decT hlt, cond_true, e0, Qaf, bneF (by omega), cond_false, w1, e1, Qaf, bneT (by omega), cond_true, Qaf, r1, Qav, w2]
      rw [show bcv a ++ [[CV.int .u8 (d.toNat : Int)]] = bcv (a ++ [d]) by simp [bcv], show (i : Int) + 1 + 1 = ((i + 2 : Nat) : Int) by omega]
      exact hn k (by omega)
    ·refine (ubad s hs hbad N (i + 1) (a ++ [c]) (bn && false) (by omega) (by simp; omega) (by omega) (by simp; omega)).mono fun n hn k hk => ?_
     obtain ⟨k, rfl⟩ : ∃ m, k = m + 1 := ⟨k - 1, by omega⟩
     rw [Qbw, hw1, decT hlt, cond_true, e0, Qaf, bneT (by omega), cond_true, Qaf, r1, Qav, w1]
     rw [show bcv a ++ [[CV.int .u8 (c.toNat : Int)]] = bcv (a ++ [c]) by simp [bcv], show (i : Int) + 1 = ((i + 1 : Nat) : Int) by omega]
     exact hn k (by omega)
  ·refine (uend lb s a bn i ha2 (by rw [hw1]; exact hlt)).mono fun n hn k hk => ?_
   obtain ⟨k, rfl⟩ : ∃ m, k = m + 1 := ⟨k - 1, by omega⟩
   rw [hn k, if_neg fun q => hbad a q.symm]
theorem Qj5 (s : Bs) (hs : s.length ≤ 100000000) : Ret lb Qbk [.str s] (unqR (unq s)) := by
 refine .top rfl (.eq (fun n => by rw [Qql]) ?_)
 cases h : unq s with
 | some b =>
  have hb := QkW h
  subst hb
  have hl := Qhf b
  exact Evt.diag (QxN lb b (by omega) b [] true rfl)
 | none =>
  refine Evt.diag (ubad lb s (by omega) (fun b q => ?_) s.length 1 [] true (by omega) (by simp) (by omega) (by simp))
  rw [q, Qnd] at h
  cases h
end Go.Proofs
set_option linter.unusedSimpArgs false
namespace Go.Proofs
open Go.Am
variable (lb : Nat)
theorem QeB {x : Int} (h0 : 0 ≤ x) (h1 : x < 18446744073709551616) : IntKind.wrap .u64 x = x := by
 unfold IntKind.wrap
 simp only [IntKind.bits, IntKind.signed]
 simp
 omega
theorem QtA (s : Bs) : Lib.trimPrefix s [45] = QaK s := by
 cases s with
 | nil => rfl
 | cons c r =>
  unfold Lib.trimPrefix Lib.hasPrefix QaK
  by_cases h : c = 45
  ·subst h; simp
  ·have : ¬ (45 : UInt8) = c := fun q => h q.symm
   simp [h, this]
def QjZ (p : Int × Int) : CV := .tup [.int .i64 p.1, .int .i64 p.2]
def numR (s : Bs) : CV := QjZ (numB s)
def numV (neg : Bool) (v : Nat) : Int × Int := bif neg then (if v ≤ 9223372036854775808 then (-(v : Int), 0) else (0, 4)) else (if v < 9223372036854775808 then ((v : Int), 0) else (0, 4))
theorem Quo {v : Nat} (h : v ≤ 9223372036854775808) : numV true v = (-(v : Int), 0) := by unfold numV; rw [cond_true, if_pos h]
theorem Qqw {v : Nat} (h : ¬ v ≤ 9223372036854775808) : numV true v = (0, 4) := by unfold numV; rw [cond_true, if_neg h]
theorem Qui {v : Nat} (h : v < 9223372036854775808) : numV false v = ((v : Int), 0) := by unfold numV; rw [cond_false, if_pos h]
theorem Qqv {v : Nat} (h : ¬ v < 9223372036854775808) : numV false v = (0, 4) := by unfold numV; rw [cond_false, if_neg h]
theorem Qe9 {s : Bs} (h : QaK s = [] ∨ (QaK s).all isDg = false ∨ ((QaK s).head? = some 48 ∧ s ≠ [48])) : numB s = (0, 3) := by unfold numB; rw [if_pos h]
theorem Qmv {s : Bs} (h1 : QaK s ≠ []) (h2 : (QaK s).all isDg = true) (h3 : ¬ ((QaK s).head? = some 48 ∧ s ≠ [48])) : numB s = numV (signed s) (valF 0 (QaK s)) := by
 unfold numB numV
 rw [if_neg (by
  rintro (q | q | q)
  ·exact h1 q
  ·rw [h2] at q; cases q
  ·exact h3 q)]
 cases signed s <;> rfl
theorem Qb9 (a b : Int) : some (CV.tup [.int .i64 a, .int .i64 b]) = some (QjZ (a, b)) := rfl
theorem Qxk (s : Bs) (h1 : QaK s ≠ []) (h2 : (QaK s).all isDg = true) : Lib.atoiAll s =
  (if signed s then (if valF 0 (QaK s) ≤ 9223372036854775808 then .ok (-(valF 0 (QaK s) : Int)) else .range) else (if valF 0 (QaK s) < 9223372036854775808 then .ok (valF 0 (QaK s) : Int) else .range)) := by
 match s, h1, h2 with
 | [], h1, _ => exact (h1 rfl).elim
 | c :: r, h1, h2 =>
  have key : (if c.toNat = 43 ∨ c.toNat = 45 then r else c :: r) = QaK (c :: r) := by
   by_cases h : c = 45
   ·subst h; rfl
   ·have h45 : c.toNat ≠ 45 := fun q => h (QbQ q)
    have e : QaK (c :: r) = c :: r := by simp [QaK, h]
    rw [e] at h2 ⊢
    simp only [List.all_cons, Bool.and_eq_true, isDg, decide_eq_true_eq] at h2
    rw [if_neg (by omega)]
  unfold Lib.atoiAll
  simp only [key]
  unfold Lib.parseMag
  rw [if_neg h1, QqO _ _ h2 (by decide)]
  have hs : signed (c :: r) = decide (c.toNat = 45) := by
   unfold signed
   by_cases h : c = 45
   ·subst h; rfl
   ·have h45 : c.toNat ≠ 45 := fun q => h (QbQ q)
    simp [h, h45]
  rw [hs]
  generalize valF 0 (QaK (c :: r)) = v
  by_cases hv : v < 18446744073709551616
  ·rw [if_pos hv]
   by_cases hn : c.toNat = 45
   ·simp only [hn, not_true_eq_false, false_and, if_false, true_and, decide_true, if_true]
    by_cases h5 : 9223372036854775808 < v
    ·rw [if_pos h5, if_neg (by omega)]
    ·rw [if_neg h5, if_pos (by omega)]
   ·simp only [hn, not_false_eq_true, true_and, false_and, if_false, decide_false, Bool.false_eq_true]
    by_cases h5 : 9223372036854775808 ≤ v
    ·rw [if_pos h5, if_neg (by omega)]
    ·rw [if_neg h5, if_pos (by omega)]
  ·rw [if_neg hv]
   simp only
   split
   ·rw [if_neg (by omega)]
   ·rw [if_neg (by omega)]
theorem QeO (s : Bs) (hs : s.length ≤ 1000000000) : Ret (lb + 1) Qb2 [.str s] (numR s) := by
 refine .top rfl (.eq (fun n => by rw [QqD]) ?_)
 have ht : Ret (lb + 1) Qdf [.str s, .str [45]] (.str (QaK s)) := .lib rfl (by simp [Qfq, QtA])
 have hul : (QaK s).length ≤ s.length := by
  cases s with
  | nil => simp [QaK]
  | cons c r => simp only [QaK]; split <;> simp
 refine .call ht ?_
 simp only [Qaf, QbO]
 unfold numR
 by_cases h1 : QaK s = []
 ·rw [Qe9 (.inl h1)]
  simp only [h1, show (([] : Bs) == []) = true from rfl, cond_true]
  exact .of (Qb9 _ _)
 simp only [show (QaK s == []) = false by simpa using h1, cond_false]
 refine .call (QgC (lb + 1) (QaK s) (by omega)) ?_
 simp only [Qaf, Qbc]
 cases h2 : (QaK s).all isDg with
 | false =>
  rw [Qe9 (.inr (.inl h2))]
  simp only [Bool.not_false, cond_true]
  exact .of (Qb9 _ _)
 | true =>
  simp only [Bool.not_true, cond_false]
  obtain ⟨x, xs, hx⟩ := List.exists_cons_of_ne_nil h1
  have hat : atS (QaK s) 0 = some x := by rw [hx]; rfl
  have hatoi : Ret (lb + 1) Qdm [.str s] (match Lib.atoiAll s with
   | .ok v => .tup [.int .i64 v, .nilif]
   | .range => .tup [.int .i64 (Lib.atoiSat s), .err]
   | _ => .tup [.int .i64 0, .err]) := by
   refine .lib rfl ?_
   unfold Qlo
   simp only
   rw [if_pos (by omega)]
   cases Lib.atoiAll s <;> rfl
  have rest : Evt fun n => (optO (C (lb + 1) n Qdm [.str s]) fun w5 => optO (CV.asT w5) fun kw => optO (kw[0]?) fun jO => optO (CV.asT w5) fun yj => optO (yj[1]?) fun jp => optO (CV.asE jp) fun gv =>
    bif (!gv) then (some (.tup [.int .i64 0, .int .i64 4])) else (some (.tup [jO, .int .i64 0]))) = some (QjZ (numV (signed s) (valF 0 (QaK s)))) := by
   refine .call hatoi ?_
   rw [Qxk s h1 h2]
   generalize valF 0 (QaK s) = v
   cases hs : signed s with
   | true =>
    rw [if_pos rfl]
    by_cases hv : v ≤ 9223372036854775808
    ·rw [if_pos hv, Quo hv]
     simp only [QbI, get0, get1, QxD, Qaf, Bool.not_true, cond_false]
     exact .of (Qb9 _ _)
    ·rw [if_neg hv, Qqw hv]
     simp only [QbI, get0, get1, QxR, Qaf, Bool.not_false, cond_true]
     exact .of (Qb9 _ _)
   | false =>
    rw [if_neg (by decide)]
    by_cases hv : v < 9223372036854775808
    ·rw [if_pos hv, Qui hv]
     simp only [QbI, get0, get1, QxD, Qaf, Bool.not_true, cond_false]
     exact .of (Qb9 _ _)
    ·rw [if_neg hv, Qqv hv]
     simp only [QbI, get0, get1, QxR, Qaf, Bool.not_false, cond_true]
     exact .of (Qb9 _ _)
  simp only [hat, Qaf]
  by_cases h48 : x = 48
  ·simp only [beqT (show (x.toNat : Int) = 48 by rw [h48]; rfl), cond_true]
   by_cases h3 : s = [48]
   ·have e : (!(s == [48])) = false := by rw [h3]; rfl
    simp only [e, cond_false]
    rw [Qmv h1 h2 (by rintro ⟨_, q⟩; exact q h3)]
    exact rest
   ·have e : (!(s == [48])) = true := by simpa using h3
    simp only [e, cond_true]
    rw [Qe9 (.inr (.inr ⟨by rw [hx, h48]; rfl, h3⟩))]
    exact .of (Qb9 _ _)
  ·have h48' : x.toNat ≠ 48 := fun q => h48 (QbQ q)
   simp only [beqF (show (x.toNat : Int) ≠ 48 by omega), cond_false]
   rw [Qmv h1 h2 (by rw [hx]; simp [h48])]
   exact rest
theorem Qrl {d : Bs} (h : d.all isDg = true) (hl : d.length ≤ 19) : valF 0 d < 10000000000000000000 := by
 have h1 := Qum d 0 h
 have h2 : 10 ^ d.length ≤ 10 ^ 19 := Nat.pow_le_pow_right (by decide) hl
 omega
theorem Qxi (n : Nat) (s d : Bs) (c : UInt8) (i j : Int) (v : Nat) (hv : v < 18446744073709551616) (hpos : c.toNat = 45 → 1 ≤ v) : QhX lb n s c d i (v : Int) j =
  some (QjZ (numV (decide (c.toNat = 45)) v)) := by
 rw [Qoq]
 by_cases h : c.toNat = 45
 ·have := hpos h
  simp only [beqT (show (c.toNat : Int) = 45 by omega), cond_true, decT h]
  by_cases h2 : v ≤ 9223372036854775808
  ·rw [decT (by omega), cond_true, Quo h2, QeB (by omega) (by omega), Qag (x := (v : Int) - 1) (by omega) (by omega), Qag (x := 0 - ((v : Int) - 1)) (by omega) (by omega), Qag (by omega) (by omega),
    show 0 - ((v : Int) - 1) - 1 = -(v : Int) by omega]
   exact Qb9 _ _
  ·rw [decF (by omega), cond_false, Qqw h2]
   exact Qb9 _ _
 ·simp only [beqF (show (c.toNat : Int) ≠ 45 by omega), cond_false, decF h]
  by_cases h2 : v < 9223372036854775808
  ·rw [decF (by omega), cond_false, Qui h2, Qag (by omega) (by omega)]
   exact Qb9 _ _
  ·rw [decT (by omega), cond_true, Qqv h2]
   exact Qb9 _ _
theorem QwP (s d : Bs) (c : UInt8) (i : Int) (hd : d.all isDg = true) (hl : d.length ≤ 19) (hpos : c.toNat = 45 → 1 ≤ valF 0 d) : Evt fun n => Qen lb n n s c d i 0 0 = some (QjZ (numV (decide (c.toNat = 45)) (valF 0 d))) := by
 have hlt := Qrl hd hl
 refine Evt.diag (m := d.length) (Qgg (s := d) (by omega) (P := fun p _ n k => Qen lb n k s c d i (valF 0 p : Int) (p.length : Int) = some (QjZ (numV (decide (c.toNat = 45)) (valF 0 d)))) ?_ ?_ d [] rfl)
 ·refine .all fun n k => ?_
  rw [QhV, decF (by omega), cond_false, Qxi lb n s d c i _ _ (by omega) hpos]
 ·intro p x t hp hlt' hat hw hev
  refine hev.mono fun n hn k hk => ?_
  have hn := hn k hk
  rw [QjD, ← hw] at hn
  have hpx : (p ++ [x]).all isDg = true ∧ (p ++ [x]).length ≤ 19 := by
   rw [← hp, show p ++ x :: t = (p ++ [x]) ++ t by simp] at hd hl
   rw [List.all_append, Bool.and_eq_true] at hd
   rw [List.length_append] at hl
   exact ⟨hd.1, by omega⟩
  have hv := Qrl hpx.1 hpx.2
  rw [QjD] at hv
  have hx : 48 ≤ x.toNat ∧ x.toNat ≤ 57 := by
   have := hpx.1
   rw [List.all_append, Bool.and_eq_true] at this
   simpa [isDg] using this.2
  rw [QhV, decT hlt', cond_true, hat, Qaf, QeB (x := 10 * (valF 0 p : Int)) (by omega) (by omega)]
  have e8 : IntKind.wrap .u8 ((x.toNat : Int) - 48) = (x.toNat : Int) - 48 := by
   unfold IntKind.wrap
   simp only [IntKind.bits, IntKind.signed]
   simp
   omega
  rw [e8, QeB (x := (x.toNat : Int) - 48) (by omega) (by omega), QeB (by omega) (by omega), show 10 * (valF 0 p : Int) + ((x.toNat : Int) - 48) = ((10 * valF 0 p + (x.toNat - 48) : Nat) : Int) by omega]
  exact hn
theorem QtH (s d : Bs) (c : UInt8) (hl : d.length ≤ 1000000000) {r : CV} (hr : d.all isDg = true → Evt fun n => Qh6 lb n s c d (d.length : Int) = some r) (hr2 : d.all isDg = false → r = .tup [.int .i64 0, .int .i64 3]) :
  Evt fun n => Qdc lb n n s c d 0 = some r := by
 have step : ∀ t p, p ++ t = d → p.all isDg = true → Evt fun n => ∀ k, t.length < k → Qdc lb n k s c d (p.length : Int) = some r := by
  intro t
  induction t with
  | nil =>
   intro p hp hpd
   have : p = d := by simpa using hp
   subst this
   refine (hr hpd).mono fun n hn k hk => ?_
   obtain ⟨k, rfl⟩ : ∃ m, k = m + 1 := ⟨k - 1, by simp at hk; omega⟩
   rw [Qe6, decF (by omega), cond_false, hn]
  | cons x t ih =>
   intro p hp hpd
   have hlen : d.length = p.length + (t.length + 1) := by rw [← hp]; simp
   have hat : atS d (p.length : Int) = some x := Qb8 (by rw [← hp]; simp)
   cases hx : isDg x with
   | false =>
    have hdd : d.all isDg = false := by rw [← hp, List.all_append, List.all_cons, hx]; simp
    refine (Qh1 lb x).mono fun n hn k hk => ?_
    obtain ⟨k, rfl⟩ : ∃ m, k = m + 1 := ⟨k - 1, by simp at hk; omega⟩
    rw [Qe6, decT (by omega), cond_true, hat, Qaf, hn, Qaf, Qbc, Qaf, hx, hr2 hdd]
    rfl
   | true =>
    refine (ih (p ++ [x]) (by rw [← hp]; simp) (by rw [List.all_append, hpd]; simp [hx])).imp2 (Qh1 lb x) fun n hi hn k hk => ?_
    obtain ⟨k, rfl⟩ : ∃ m, k = m + 1 := ⟨k - 1, by simp at hk; omega⟩
    have hi := hi k (by simp at hk; omega)
    rw [Qe6, decT (by omega), cond_true, hat, Qaf, hn, Qaf, Qbc, Qaf, hx, Bool.not_true, cond_false, Qag (by omega) (by omega), show (p.length : Int) + 1 = ((p ++ [x]).length : Int) by simp]
    exact hi
 exact Evt.diag (step d [] rfl rfl)
theorem Qym {x : UInt8} {xs : Bs} (hc : Qnc (x :: xs)) (h : 19 ≤ xs.length) : 10000000000000000000 ≤ valF 0 (x :: xs) := by
 obtain ⟨_, hd, h3⟩ := hc
 have hx48 : x.toNat ≠ 48 := fun q => by
  have := h3 (by rw [show x = 48 from QbQ q]; rfl)
  simp only [List.cons.injEq] at this
  rw [this.2] at h; simp at h
 simp only [List.all_cons, Bool.and_eq_true, isDg, decide_eq_true_eq] at hd
 rw [Qe8]
 have h4 := QoH xs (10 * 0 + (x.toNat - 48))
 have h5 : 10 ^ 19 ≤ 10 ^ xs.length := Nat.pow_le_pow_right (by decide) h
 have h6 : 10 ^ xs.length * 1 ≤ 10 ^ xs.length * (10 * 0 + (x.toNat - 48)) := Nat.mul_le_mul_left _ (by omega)
 omega
theorem Qrt (s d : Bs) (c : UInt8) (hun : QaK s = d) (hsg : signed s = decide (c.toNat = 45)) (h45d : c.toNat ≠ 45 → d = s) (hhd : s.head? = some c) (hl : d.length ≤ 1000000000) : Evt fun n => QfM lb n s c d = some (QjZ (numB s)) := by
 refine .eq (fun n => by rw [Qoa]) ?_
 by_cases h1 : d = []
 ·rw [Qe9 (.inl (by rw [hun, h1]))]
  simp only [h1, show (([] : Bs) == []) = true from rfl, cond_true]
  exact .of (Qb9 _ _)
 simp only [show (d == []) = false by simpa using h1, cond_false]
 obtain ⟨x, xs, hx⟩ := List.exists_cons_of_ne_nil h1
 have hat : atS d 0 = some x := by rw [hx]; rfl
 simp only [hat, Qaf]
 have rest : ¬ (d.head? = some 48 ∧ s ≠ [48]) → Evt fun n => Qdc lb n n s c d 0 = some (QjZ (numB s)) := by
  intro hno
  refine QtH lb s d c hl (fun hd => ?_) fun hd => ?_
  ·have hs48 : d.head? = some 48 → s = [48] := fun q => Decidable.byContradiction fun q2 => hno ⟨q, q2⟩
   have hcan : Qnc d := ⟨h1, hd, fun q => by
    have := hs48 q
    rw [← hun, this]; rfl⟩
   rw [Qmv (by rw [hun]; exact h1) (by rw [hun]; exact hd) (by rw [hun]; exact hno), hsg, hun]
   refine .eq (fun n => by rw [Qoj]) ?_
   by_cases h19 : d.length ≤ 19
   ·simp only [decF (show ¬ (d.length : Int) > 19 by omega), cond_false]
    refine QwP lb s d c _ hd h19 fun h45 => ?_
    refine Decidable.byContradiction fun hz => ?_
    have hz : valF 0 d = 0 := by omega
    have := Qoh _ _ rfl hcan
    rw [hz, Lib.decDigits, dif_pos (by decide)] at this
    have h2 := hs48 (by rw [this]; rfl)
    rw [h2] at hhd
    simp only [List.head?_cons, Option.some.injEq] at hhd
    rw [← hhd] at h45
    exact absurd h45 (by decide)
   ·simp only [decT (show (d.length : Int) > 19 by omega), cond_true]
    have hbig : 10000000000000000000 ≤ valF 0 d := by
     rw [hx] at hcan h19 ⊢
     exact Qym hcan (by simp only [List.length_cons] at h19; omega)
    cases decide (c.toNat = 45)
    ·rw [Qqv (by omega)]; exact .of (Qb9 _ _)
    ·rw [Qqw (by omega)]; exact .of (Qb9 _ _)
  ·rw [Qe9 (.inr (.inl (by rw [hun]; exact hd)))]; rfl
 by_cases h48 : x = 48
 ·simp only [beqT (show (x.toNat : Int) = 48 by rw [h48]; rfl), cond_true]
  by_cases h45 : c.toNat = 45
  ·have hne : s ≠ [48] := fun q => by
    rw [q] at hhd
    simp only [List.head?_cons, Option.some.injEq] at hhd
    rw [← hhd] at h45
    exact absurd h45 (by decide)
   simp only [beqT (show (c.toNat : Int) = 45 by omega), cond_true]
   rw [Qe9 (.inr (.inr ⟨by rw [hun, hx, h48]; rfl, hne⟩))]
   exact .of (Qb9 _ _)
  ·have hds := h45d h45
   simp only [beqF (show (c.toNat : Int) ≠ 45 by omega), cond_false]
   by_cases hlen : d.length > 1
   ·simp only [decT (show (d.length : Int) > 1 by omega), cond_true]
    rw [Qe9 (.inr (.inr ⟨by rw [hun, hx, h48]; rfl, fun q => by rw [hds, q] at hlen; simp at hlen⟩))]
    exact .of (Qb9 _ _)
   ·simp only [decF (show ¬ (d.length : Int) > 1 by omega), cond_false]
    refine rest fun ⟨_, q⟩ => q ?_
    have e2 : xs = [] := by
     rw [hx] at hlen
     simp only [List.length_cons] at hlen
     exact List.eq_nil_of_length_eq_zero (by omega)
    rw [← hds, hx, h48, e2]
 ·have h48' : x.toNat ≠ 48 := fun q => h48 (QbQ q)
  simp only [beqF (show (x.toNat : Int) ≠ 48 by omega), cond_false]
  exact rest fun ⟨q, _⟩ => by rw [hx] at q; simp at q; exact h48 q
theorem Qfl (s : Bs) (hs : s.length ≤ 1000000000) : Ret lb Qan [.str s] (numR s) := by
 refine .top rfl (.eq (fun n => by rw [QrA]) ?_)
 unfold numR
 match s, hs with
 | [], _ =>
  refine .all fun n => ?_
  rw [decF (by simp), cond_false, Qoy, Qe9 (.inl rfl)]
  rfl
 | c :: r, hs =>
  rw [decT (show ((c :: r).length : Int) > 0 by simp only [List.length_cons]; omega)]
  simp only [cond_true]
  simp only [show atS (c :: r) 0 = some c from rfl]
  simp only [Qaf]
  by_cases h45 : c.toNat = 45
  ·have hc : c = 45 := QbQ h45
   subst hc
   simp only [beqT (show (((45 : UInt8).toNat : Int)) = 45 by decide), cond_true]
   refine .chk (decT ⟨by omega, by simp only [List.length_cons]; omega⟩) ?_
   rw [Int.toNat_natCast, List.take_length]
   exact Qrt lb (45 :: r) r 45 rfl rfl (fun q => (q h45).elim) rfl (by simp only [List.length_cons] at hs; omega)
  ·simp only [beqF (show (c.toNat : Int) ≠ 45 by omega), cond_false]
   have hc : c ≠ 45 := fun q => h45 (by rw [q]; rfl)
   exact Qrt lb (c :: r) (c :: r) c (by simp [QaK, hc]) (by simp [signed, hc, h45]) (fun _ => rfl) rfl hs
theorem Qea (z : Int) (h0 : -9223372036854775808 ≤ z) (h1 : z ≤ 9223372036854775807) : Ret lb QaP [.int .i64 z] (.str (Lib.itoa z)) := by
 refine .top rfl (.eq (fun n => by rw [Qp3]) ?_)
 refine .call (v := .str (Lib.itoa z)) (.lib rfl ?_) .done
 simp only [QkS, if_pos (And.intro h0 h1), Qs5 h0 h1]
theorem Qrh : ∀ d, d < 10 → (([48, 49, 50, 51, 52, 53, 54, 55, 56, 57] : Bs).take (d + 1)).drop d = [UInt8.ofNat (48 + d)] := by decide +kernel
theorem QkH : ∀ (N u : Nat), u ≤ N → u < 18446744073709551616 → Ret lb QeV [.int .u64 (u : Int)] (.str (Lib.decDigits u)) := by
 intro N
 induction N with
 | zero =>
  intro u hu _
  have : u = 0 := by omega
  subst this
  refine .top rfl (.all fun n => ?_)
  rw [Ql1, Lib.decDigits, dif_pos (by decide)]
  rfl
 | succ N ih =>
  intro u hu h64
  refine .top rfl (.eq (fun n => by rw [Ql1]) ?_)
  by_cases h : u < 10
  ·simp only [decT (show (u : Int) < 10 by omega), cond_true, QeB (x := (u : Int) + 1) (by omega) (by omega)]
   refine .chk (decT ⟨by omega, by omega⟩) (.chk (decT ⟨by omega, by omega⟩) ?_)
   rw [Lib.decDigits, dif_pos h, show ((u : Int) + 1).toNat = u + 1 by omega, Int.toNat_natCast, Qrh u h]
   exact .done
  ·simp only [decF (show ¬ (u : Int) < 10 by omega), cond_false]
   have e1 : IntKind.wrap .u64 (Int.tdiv (u : Int) 10) = ((u / 10 : Nat) : Int) := by
    rw [show Int.tdiv (u : Int) 10 = ((u / 10 : Nat) : Int) from rfl, QeB (by omega) (by omega)]
   have e2 : Int.tmod (u : Int) 10 = ((u % 10 : Nat) : Int) := rfl
   have e3 : IntKind.wrap .u64 (((u % 10 : Nat) : Int) + 1) = ((u % 10 + 1 : Nat) : Int) := by rw [QeB (by omega) (by omega)]; omega
   simp only [e1, e2, e3]
   refine .call (ih (u / 10) (by omega) (by omega)) ?_
   refine .chk (decT ⟨by omega, by omega⟩) (.chk (decT ⟨by omega, by omega⟩) ?_)
   simp only [Qaf, QbO, Int.toNat_natCast, Qrh _ (show u % 10 < 10 by omega)]
   rw [Lib.decDigits.eq_def u, dif_neg h]
   refine .chk (decT ?_) .done
   have := QfX (z := ((u / 10 : Nat) : Int)) (by omega) (by omega)
   unfold Lib.itoa at this
   rw [if_neg (by omega), Int.toNat_natCast] at this
   simp only [List.length_cons, List.length_nil]
   omega
theorem Qc8 (z : Int) (h0 : -9223372036854775808 ≤ z) (h1 : z ≤ 9223372036854775807) : Ret lb QaR [.int .i64 z] (.str (Lib.itoa z)) := by
 refine .top rfl (.eq (fun n => by rw [QqH]) ?_)
 unfold Lib.itoa
 by_cases h : z < 0
 ·simp only [decT h, cond_true, if_pos h, Qag (x := z + 1) (by omega) (by omega), Qag (x := 0 - (z + 1)) (by omega) (by omega), QeB (x := 0 - (z + 1)) (by omega) (by omega), QeB (x := 0 - (z + 1) + 1) (by omega) (by omega)]
  rw [show 0 - (z + 1) + 1 = (z.natAbs : Int) by omega]
  refine .call (QkH lb z.natAbs z.natAbs (Nat.le_refl _) (by omega)) ?_
  simp only [Qaf, QbO]
  refine .chk (decT ?_) .done
  have := QfX h0 h1
  unfold Lib.itoa at this
  rw [if_pos h] at this
  simp only [List.length_cons, List.length_nil] at this ⊢
  omega
 ·simp only [decF h, cond_false, if_neg h, QeB (x := z) (by omega) (by omega)]
  have := QkH lb z.toNat z.toNat (Nat.le_refl _) (by omega)
  rw [show ((z.toNat : Nat) : Int) = z by omega] at this
  exact .call this .done
end Go.Proofs
set_option linter.unusedSimpArgs false
namespace Go.Proofs
open Go.Am
variable (lb : Nat)
def QaL (l : List Bs) : Nat := (l.map List.length).sum
theorem Qb5 (w : Bs) (l : List Bs) : QaL (w :: l) = w.length + QaL l := by simp [QaL]
theorem QgM (a b : List Bs) : QaL (a ++ b) = QaL a + QaL b := by simp [QaL]
theorem Qlj {w : Bs} : ∀ {l : List Bs}, w ∈ l → w.length ≤ QaL l
 | [], h => by cases h
 | x :: l, h => by
  rw [Qb5]
  rcases List.mem_cons.1 h with rfl | h
  ·omega
  ·have := Qlj h; omega
theorem Qhx : ∀ l : List Bs, (Qar l).length ≤ 4 * QaL l + 3 * l.length
 | [] => by simp [Qar]
 | [w] => by
  have := Qd3 w
  simp only [Qar, Qb5, List.length_cons, List.length_nil]; omega
 | w :: x :: r => by
  have := Qd3 w
  have := Qhx (x :: r)
  rw [QcG w (by simp), Qb5]
  simp only [List.length_append, List.length_cons] at this ⊢; omega
def cutR (ps : List Bs) (o : Option (List Bs)) : CV := match o with
 | some l => .tup [.list false (scv (ps ++ l)), .bool true]
 | none => .tup [.list true [], .bool false]
theorem Qw6 (s : Bs) {i : Nat} {c : UInt8} (h : s[i]? = some c) : (c.toNat < 128 → Utf8.decode ⟨s.toArray⟩ i = (c.toNat, 1)) ∧ (128 ≤ c.toNat → 126 < (Utf8.decode ⟨s.toArray⟩ i).1) := by
 obtain ⟨hl, hc⟩ := List.getElem?_eq_some_iff.1 h
 have hsz : i < (⟨s.toArray⟩ : ByteArray).size := by simpa [ByteArray.size] using hl
 have hg : ((⟨s.toArray⟩ : ByteArray)[i]'hsz) = c := hc
 refine ⟨fun q => ?_, fun q => ?_⟩
 ·rw [decode_ascii _ _ hsz (by rw [hg]; exact q), hg]
 ·have := (decode_high ⟨s.toArray⟩ i hsz (by rw [hg]; exact q)).1
  omega
theorem Qog (s : Bs) (hs : s.length ≤ 1000000000) : ∀ (t A cur : Bs) (ps : List Bs) (bn q e : Bool), A ++ cur ++ t = s → ps.length ≤ A.length →
  Evt fun n => ∀ k, t.length < k → Qbi lb n k s bn (scv ps) (A.length : Int) q e (A ++ cur).length = some (cutR ps (cutB t cur q e))
 | [], A, cur, ps, bn, q, e, h, hp => .all fun n k hk => by
  obtain ⟨k, rfl⟩ : ∃ m, k = m + 1 := ⟨k - 1, by simp at hk; omega⟩
  have hsA : A ++ cur = s := by simpa using h
  have hl : s.length = A.length + cur.length := by rw [← hsA, List.length_append]
  rw [Qcn, decF (by rw [hsA]; omega), cond_false, Qqj, decT ⟨by omega, by omega⟩, Qav, Qbf (by rw [QaS]; omega), Qav]
  have e1 : (s.take ((s.length : Int)).toNat).drop ((A.length : Int)).toNat = cur := by
   rw [Int.toNat_natCast, Int.toNat_natCast, List.take_length, ← hsA, List.drop_left]
  rw [e1, Bool.and_false]
  simp [cutR, cutB, scv]
 | c :: t, A, cur, ps, bn, q, e, h, hp => by
  have hl : s.length = A.length + cur.length + (t.length + 1) := by rw [← h]; simp only [List.length_append, List.length_cons]
  have hat : s[(A ++ cur).length]? = some c := by rw [← h]; simp
  have hlt : (A ++ cur).length < s.length := by rw [List.length_append]; omega
  obtain ⟨d1, d2⟩ := Qw6 s hat
  have hnext : (A ++ (cur ++ [c])) ++ t = s := by rw [← h]; simp
  by_cases hbad : c.toNat < 32 ∨ 126 < c.toNat
  ·refine .all fun n k hk => ?_
   obtain ⟨k, rfl⟩ : ∃ m, k = m + 1 := ⟨k - 1, by simp at hk; omega⟩
   rw [Qcn, decT hlt, cond_true, cutB, if_pos hbad]
   by_cases h1 : c.toNat < 128
   ·rw [d1 h1]
    rcases hbad with h2 | h2
    ·rw [decT (show ((c.toNat : Nat) : Int) < 32 by omega), cond_true]; rfl
    ·rw [decF (show ¬ ((c.toNat : Nat) : Int) < 32 by omega), cond_false, decT (show ((c.toNat : Nat) : Int) > 126 by omega), cond_true]; rfl
   ·have h3 := d2 (by omega)
    rw [decF (show ¬ (((Utf8.decode ⟨s.toArray⟩ (A ++ cur).length).1 : Nat) : Int) < 32 by omega), cond_false, decT (show (((Utf8.decode ⟨s.toArray⟩ (A ++ cur).length).1 : Nat) : Int) > 126 by omega), cond_true]; rfl
  have hd := d1 (by omega)
  have hpos : (A ++ cur).length + 1 = (A ++ (cur ++ [c])).length := by simp; omega
  have hg : ∀ {x y : Option CV}, (bif decide (((c.toNat : Nat) : Int) < 32) then x else bif decide (((c.toNat : Nat) : Int) > 126) then x else y) = y := by
   intro x y
   rw [decF (by omega), cond_false, decF (by omega), cond_false]
  have step : ∀ q' e', cutB (c :: t) cur q e = cutB t (cur ++ [c]) q' e' →
    (∀ n k, Qbi lb n (k + 1) s bn (scv ps) (A.length : Int) q e (A ++ cur).length = Qbi lb n k s bn (scv ps) (A.length : Int) q' e' ((A ++ cur).length + 1)) →
    Evt fun n => ∀ k, (c :: t).length < k → Qbi lb n k s bn (scv ps) (A.length : Int) q e (A ++ cur).length = some (cutR ps (cutB (c :: t) cur q e)) := by
   intro q' e' h1 h2
   refine (Qog s hs t A (cur ++ [c]) ps bn q' e' hnext hp).mono fun n hn k hk => ?_
   obtain ⟨k, rfl⟩ : ∃ m, k = m + 1 := ⟨k - 1, by simp at hk; omega⟩
   rw [h2, h1, hpos]
   exact hn k (by simp at hk; omega)
  cases e with
  | true =>
   refine step q false (by rw [cutB, if_neg hbad, if_pos rfl]) fun n k => ?_
   rw [Qcn, decT hlt, cond_true, hd, hg, cond_true]
  | false =>
   by_cases h92 : q = true ∧ c.toNat = 92
   ·obtain ⟨rfl, h92⟩ := h92
    refine step true true (by rw [cutB, if_neg hbad, if_neg (by decide), if_pos ⟨rfl, h92⟩]) fun n k => ?_
    rw [Qcn, decT hlt, cond_true, hd, hg, cond_false, cond_true, beqT (show ((c.toNat : Nat) : Int) = 92 by omega), cond_true]
   by_cases h34 : c.toNat = 34
   ·refine step (!q) false (by rw [cutB, if_neg hbad, if_neg (by decide), if_neg h92, if_pos h34]) fun n k => ?_
    rw [Qcn, decT hlt, cond_true, hd, hg, cond_false, beqF (show ((c.toNat : Nat) : Int) ≠ 92 by omega), beqT (show ((c.toNat : Nat) : Int) = 34 by omega)]
    cases q <;> rfl
   by_cases h32 : c.toNat = 32 ∧ (!q) = true
   ·obtain ⟨h32, hq⟩ := h32
    have hq : q = false := by simpa using hq
    subst hq
    refine (Qog s hs t (A ++ (cur ++ [c])) [] (ps ++ [cur]) false false false (by rw [List.append_nil]; exact hnext) (by simp; omega)).mono fun n hn k hk => ?_
    obtain ⟨k, rfl⟩ : ∃ m, k = m + 1 := ⟨k - 1, by simp at hk; omega⟩
    have hn := hn k (by simp at hk; omega)
    rw [Qcn, decT hlt, cond_true, hd, hg, cond_false, cond_false, beqF (show ((c.toNat : Nat) : Int) ≠ 34 by omega), cond_false, beqT (show ((c.toNat : Nat) : Int) = 32 by omega), cond_true, Bool.not_false, cond_true,
     decT ⟨by omega, by omega⟩, Qav, decT ⟨by omega, by rw [List.length_append]; omega⟩, Qav, Qbf (by rw [QaS]; omega), Qav, Qag (by omega) (by omega)]
    have e1 : (s.take (((A ++ cur).length : Int)).toNat).drop ((A.length : Int)).toNat = cur := by
     rw [Int.toNat_natCast, Int.toNat_natCast, ← h, List.take_left, List.drop_left]
    rw [e1, Bool.and_false, hpos, show (((A ++ cur).length : Int) + 1) = ((A ++ (cur ++ [c])).length : Int) by rw [← hpos]; omega, show scv ps ++ [[CV.str cur]] = scv (ps ++ [cur]) by simp [scv]]
    rw [List.append_nil] at hn
    rw [hn, cutB, if_neg hbad, if_neg (by decide), if_neg (by simp), if_neg h34, if_pos ⟨h32, rfl⟩]
    cases cutB t [] false false <;> simp [cutR]
   ·refine step q false (by rw [cutB, if_neg hbad, if_neg (by decide), if_neg h92, if_neg h34, if_neg h32]) fun n k => ?_
    rw [Qcn, decT hlt, cond_true, hd, hg, cond_false]
    cases q with
    | true =>
     have h92' : c.toNat ≠ 92 := fun x => h92 ⟨rfl, x⟩
     rw [cond_true, beqF (show ((c.toNat : Nat) : Int) ≠ 92 by omega), cond_false, beqF (show ((c.toNat : Nat) : Int) ≠ 34 by omega), cond_false, Bool.not_true]
     cases ((c.toNat : Nat) : Int) == 32 <;> rfl
    | false =>
     have h32' : c.toNat ≠ 32 := fun x => h32 ⟨x, rfl⟩
     rw [cond_false, beqF (show ((c.toNat : Nat) : Int) ≠ 34 by omega), cond_false, beqF (show ((c.toNat : Nat) : Int) ≠ 32 by omega), cond_false]
theorem Qsx (s : Bs) (hs : s.length ≤ 1000000000) : Ret lb Qcl [.str s] (cutR [] (cutB s [] false false)) := by
 refine .top rfl (.eq (fun n => by rw [Qt1]) ?_)
 exact Evt.diag (Qog lb s hs s [] [] [] true false false rfl (Nat.le_refl _))
def Qi7 (bn : Bool) (o : Option (List Bs)) : CV := match o with
 | some l => .tup [.list bn (scv l), .int .i64 0]
 | none => .tup [.list true [], .int .i64 3]
theorem Qj8 (s : Bs) (x4 x6 r2 : CV) (p9 : Bool × List (List CV)) (ps : List Bs) (b4 wC : Bool) (hx : x4 = .list b4 (scv ps)) (hsum : ∀ p ∈ ps, p.length ≤ 1000000000) (hps : ps.length ≤ 1000000000) :
  ∀ t p, p ++ t = ps → ∀ out : List Bs, out.length ≤ p.length → Evt fun n => ∀ k, t.length < k → Qeq lb n k s x4 x6 r2 p9 (wC, scv ps) (scv out) (p.length : Int) = some (Qi7 false ((t.mapM QeQ).map (out ++ ·)))
 | [], p, h, out, ho => .all fun n k hk => by
  obtain ⟨k, rfl⟩ : ∃ m, k = m + 1 := ⟨k - 1, by simp at hk; omega⟩
  have : p = ps := by simpa using h
  rw [Qc3, decF (by rw [this, QaS]; omega), cond_false, Qoe]
  simp [Qi7]
 | w :: t, p, h, out, ho => by
  have hl : ps.length = p.length + (t.length + 1) := by rw [← h]; simp
  have hat : atL (scv ps) (p.length : Int) = some [.str w] := Qet (Qga (by rw [← h]; simp))
  have hw : w.length ≤ 1000000000 := hsum w (by rw [← h]; simp)
  have hnext : (p ++ [w]) ++ t = ps := by rw [← h]; simp
  have hlt : (p.length : Int) < ((scv ps).length : Int) := by rw [QaS]; omega
  have hwr : IntKind.wrap .i64 ((p.length : Int) + 1) = ((p ++ [w]).length : Int) := by rw [Qag (by omega) (by omega)]; simp
  have r1 : room ((scv out).length + 1) 16 = true := Qbf (by rw [QaS]; omega)
  rw [List.mapM_cons]
  cases hpl : Qce w with
  | true =>
   refine (Qj8 s x4 x6 r2 p9 ps b4 wC hx hsum hps t (p ++ [w]) hnext (out ++ [w]) (by simp; omega)).imp2 (QcR lb w (Nat.le_trans hw (by decide))) fun n hn h1 k hk => ?_
   obtain ⟨k, rfl⟩ : ∃ m, k = m + 1 := ⟨k - 1, by simp at hk; omega⟩
   have hn := hn k (by simp at hk; omega)
   rw [Qc3]
   simp only [decT hlt, cond_true, hx, QcC, Qaf, hat, List.length_cons, List.length_nil, Nat.zero_add, beq_self_eq_true, Qav, get0, h1, Qbc, hpl, Bool.not_true, cond_false, QaX, r1, hwr]
   rw [← hx, show scv out ++ [[CV.str w]] = scv (out ++ [w]) by simp [scv], hn]
   simp only [QeQ, hpl, if_true]
   cases t.mapM QeQ <;> simp
  | false =>
   have hr : QeQ w = match unq w with
     | some t => if Qce t then none else some t
     | none => none := by unfold QeQ; rw [hpl]; rfl
   cases hu : unq w with
   | none =>
    refine (Qf5 lb w hw).imp2 (QcR lb w (Nat.le_trans hw (by decide))) fun n h2 h1 k hk => ?_
    obtain ⟨k, rfl⟩ : ∃ m, k = m + 1 := ⟨k - 1, by simp at hk; omega⟩
    rw [Qc3]
    simp only [decT hlt, cond_true, hx, QcC, Qaf, hat, List.length_cons, List.length_nil, Nat.zero_add, beq_self_eq_true, Qav, get0, get1, h1, h2, hu, unqR, QbI, Qae, Qbc, hpl, Bool.not_false]
    rw [hr, hu]
    rfl
   | some v =>
    have hv : v.length ≤ 1000000000 := by have := Qhf v; rw [← QkW hu] at this; omega
    cases hpv : Qce v with
    | true =>
     refine ((Qf5 lb w hw).and (QcR lb v (Nat.le_trans hv (by decide)))).imp2 (QcR lb w (Nat.le_trans hw (by decide))) fun n ⟨h2, h3⟩ h1 k hk => ?_
     obtain ⟨k, rfl⟩ : ∃ m, k = m + 1 := ⟨k - 1, by simp at hk; omega⟩
     rw [Qc3]
     simp only [decT hlt, cond_true, hx, QcC, Qaf, hat, List.length_cons, List.length_nil, Nat.zero_add, beq_self_eq_true, Qav, get0, get1, h1, h2, h3, hu, hpv, unqR, QbI, Qae, Qbc, hpl, Bool.not_false, bne_self_eq_false, cond_false]
     rw [hr, hu]
     simp [hpv, Qi7]
    | false =>
     refine ((Qj8 s x4 x6 r2 p9 ps b4 wC hx hsum hps t (p ++ [w]) hnext (out ++ [v]) (by simp; omega)).and (Qf5 lb w hw)).imp2 ((QcR lb w (Nat.le_trans hw (by decide))).and (QcR lb v (Nat.le_trans hv (by decide)))) fun n ⟨hn, h2⟩ ⟨h1, h3⟩ k hk => ?_
     obtain ⟨k, rfl⟩ : ∃ m, k = m + 1 := ⟨k - 1, by simp at hk; omega⟩
     have hn := hn k (by simp at hk; omega)
     rw [Qc3]
     simp only [decT hlt, cond_true, hx, QcC, Qaf, hat, List.length_cons, List.length_nil, Nat.zero_add, beq_self_eq_true, Qav, get0, get1, h1, h2, h3, hu, hpv, unqR, QbI, Qae, Qbc, hpl, Bool.not_false, bne_self_eq_false, cond_false, QaX, r1, hwr]
     rw [← hx, show scv out ++ [[CV.str v]] = scv (out ++ [v]) by simp [scv], hn, hr, hu]
     simp only [hpv]
     cases t.mapM QeQ <;> simp
theorem Qsa : ∀ ps : List Bs, QaL ps ≤ (Lib.join ps [32]).length ∧ ps.length ≤ (Lib.join ps [32]).length + 1
 | [] => by simp [QaL, Lib.join]
 | [w] => by simp [QaL, Lib.join]
 | w :: x :: r => by
  have := Qsa (x :: r)
  have e : Lib.join (w :: x :: r) [32] = w ++ 32 :: Lib.join (x :: r) [32] := by simp [Lib.join, List.intercalate]
  rw [e, Qb5]
  simp only [List.length_append, List.length_cons] at this ⊢
  omega
theorem QkN (s : Bs) (hs : s.length ≤ 100000000) : Ret lb QbC [.str s] (Qi7 s.isEmpty (Qdd s)) := by
 refine .top rfl (.eq (fun n => by rw [QrO]) ?_)
 by_cases h0 : s = []
 ·subst h0; exact .done
 rw [show s.isEmpty = false by simpa using h0]
 simp only [show (s == []) = false by simpa using h0, cond_false]
 refine .call (Qsx lb s (by omega)) ?_
 unfold Qdd
 rw [if_neg h0]
 cases hc : cutB s [] false false with
 | none =>
  simp only [cutR, QbI, get0, get1, Qaf, Qbc, Bool.not_false, cond_true]
  exact .of rfl
 | some ps =>
  simp only [cutR, List.nil_append, QbI, get0, get1, Qaf, Qbc, Bool.not_true, cond_false, QcC, QaS]
  obtain ⟨h1, h2⟩ := QjR hc
  have h3 := Qsa ps
  rw [h2] at h3
  simp only [List.nil_append] at h3
  refine .chk ?_ ?_
  ·simp; omega
  ·refine (Evt.diag (Qj8 lb s (.list false (scv ps)) _ _ _ ps false false rfl (fun p hp => by have := Qlj hp; omega) (by omega) ps [] rfl [] (Nat.le_refl _))).mono fun n hn => Eq.trans hn ?_
   rw [Option.bind_some]
   cases ps.mapM QeQ <;> simp
theorem QoM (an : Bool) (l : List Bs) (hl : l.length ≤ 1000000000) (hm : ∀ w ∈ l, w.length ≤ 1000000000) :
  ∀ t p, p ++ t = l → Evt fun n => ∀ k, t.length < k → text_Join_L1 lb n k an (scv l) (scv (p.map QaJ)) (p.length : Int) = Qgu lb n an (scv l) false (scv (l.map QaJ))
 | [], p, h => .all fun n k hk => by
  obtain ⟨k, rfl⟩ : ∃ m, k = m + 1 := ⟨k - 1, by simp at hk; omega⟩
  have : p = l := by simpa using h
  rw [Qid, decF (by rw [this, QaS]; omega), cond_false, this]
 | w :: t, p, h => by
  have hll : l.length = p.length + (t.length + 1) := by rw [← h]; simp
  have hat : atL (scv l) (p.length : Int) = some [.str w] := Qet (Qga (by rw [← h]; simp))
  have hw := hm w (by rw [← h]; simp)
  refine (QoM an l hl hm t (p ++ [w]) (by rw [← h]; simp)).imp2 ((QcR lb w (Nat.le_trans hw (by decide))).and (Qp9 lb w hw)) fun n hn ⟨h1, h2⟩ k hk => ?_
  obtain ⟨k, rfl⟩ : ∃ m, k = m + 1 := ⟨k - 1, by simp at hk; omega⟩
  have hn := hn k (by simp at hk; omega)
  have r1 : room ((scv (p.map QaJ)).length + 1) 16 = true := Qbf (by rw [QaS, List.length_map]; omega)
  rw [Qid]
  simp only [decT (show (p.length : Int) < ((scv l).length : Int) by rw [QaS]; omega), cond_true, hat, Qaf, List.length_cons, List.length_nil, Nat.zero_add, beq_self_eq_true, Qav, get0, h1, h2, Qbc, QaX, r1,
   Qag (x := (p.length : Int) + 1) (by omega) (by omega)]
  rw [show (p.length : Int) + 1 = ((p ++ [w]).length : Int) by simp]
  rw [← hn]
  cases hp : Qce w
  ·simp [QaJ, hp, scv]
  ·simp [QaJ, hp, scv]
theorem QhY (an : Bool) (l : List Bs) (hl : l.length ≤ 100000000) (hm : QaL l ≤ 100000000) : Ret lb QaH [.list an (scv l)] (.str (Qar l)) := by
 refine .top rfl (.eq (fun n => by rw [Qr9]) ?_)
 refine .chk (by simp [QaS]; omega) ?_
 refine (Evt.diag (m := l.length) (P := fun n k => text_Join_L1 lb n k an (scv l) [] 0 = Qgu lb n an (scv l) false (scv (l.map QaJ))) (QoM lb an l (by omega) (fun w hw => by have := Qlj hw; omega) l [] rfl)).imp2 (Q := fun n => C lb n Qfg [.list false (scv (l.map QaJ)), .str [32]] = some (.str (Qar l))) ?_ fun n hn hj => ?_
 ·have hb := Qhx l
  refine Ret.lib rfl ?_
  unfold Qlk
  simp only [Qpu]
  rw [if_pos ⟨by rw [List.length_map]; omega, by rw [← Qlu]; omega⟩, ← Qlu]
 ·rw [hn, Qp4, hj]
  rfl
theorem QoV (an : Bool) (l : List Bs) (hl : l.length ≤ 100000000) (hm : QaL l ≤ 100000000) :
  ∀ t p, p ++ t = l → ∀ (bn : Bool) (acc : Bs), acc.length ≤ 4 * QaL p + 3 * p.length → Evt fun n => ∀ k, t.length < k →
   Qex lb n k an (scv l) bn (bcv acc) (p.length : Int) = some (.str (acc ++ (if p = [] ∨ t = [] then Qar t else 32 :: Qar t)))
 | [], p, h, bn, acc, ha => .all fun n k hk => by
  obtain ⟨k, rfl⟩ : ∃ m, k = m + 1 := ⟨k - 1, by simp at hk; omega⟩
  have : p = l := by simpa using h
  rw [Qjk, decF (by rw [this, QaS]; omega), cond_false, Qqn, QeC]
  simp [Qaf, Qar]
 | w :: t, p, h, bn, acc, ha => by
  have hll : l.length = p.length + (t.length + 1) := by rw [← h]; simp
  have hsum : QaL l = QaL p + (w.length + QaL t) := by rw [← h, QgM, Qb5]
  have hat : atL (scv l) (p.length : Int) = some [.str w] := Qet (Qga (by rw [← h]; simp))
  have hwl := Qd3 w
  let acc1 : Bs := if p = [] then acc else acc ++ [32]
  have hacc1 : acc1.length ≤ acc.length + 1 := by simp only [acc1]; split <;> simp
  have hne : ¬ (p ++ [w] = [] ∨ t = []) ↔ t ≠ [] := by simp
  have fin : acc1 ++ QaJ w ++ (if p ++ [w] = [] ∨ t = [] then Qar t else 32 :: Qar t) = acc ++ (if p = [] ∨ w :: t = [] then Qar (w :: t) else 32 :: Qar (w :: t)) := by
   simp only [acc1]
   cases t with
   | nil =>
    by_cases hp : p = []
    ·simp [hp, Qar]
    ·simp [hp, Qar]
   | cons x t =>
    rw [QcG w (by simp)]
    by_cases hp : p = []
    ·simp [hp]
    ·simp [hp]
  rw [← fin]
  let bn1 : Bool := if p = [] then bn else bn && false
  let yn : Bool := bn1 && (bcv (QaJ w)).isEmpty
  refine (QoV an l hl hm t (p ++ [w]) (by rw [← h]; simp) yn (acc1 ++ QaJ w) (by rw [QgM, Qb5]; simp [QaL]; simp [QaL] at ha; omega)).imp2 ((QrD lb w (by omega)).and (QlG lb w (by omega))) fun n hn ⟨h1, h2⟩ k hk => ?_
  obtain ⟨k, rfl⟩ : ∃ m, k = m + 1 := ⟨k - 1, by simp at hk; omega⟩
  have hn := hn k (by simp at hk; omega)
  have step : Qhu lb n k an (scv l) (p.length : Int) bn1 (bcv acc1) = Qex lb n k an (scv l) yn (bcv (acc1 ++ QaJ w)) ((p ++ [w]).length : Int) := by
   have hbq : ∀ s : Bs, (s.map fun c => [CV.int .u8 c.toNat]) = bcv s := fun _ => rfl
   rw [Qqq]
   simp only [hat, Qaf, List.length_cons, List.length_nil, Nat.zero_add, beq_self_eq_true, Qav, get0, h1, h2, Qbc, QbO, hbq, Qt9, Qag (x := (p.length : Int) + 1) (by omega) (by omega)]
   rw [show (p.length : Int) + 1 = ((p ++ [w]).length : Int) by simp]
   have hql := Qhf w
   cases hp : Qce w with
   | false =>
    rw [Bool.not_false, cond_true, Qbf (by rw [QdB, QdB]; omega), Qav, ← QuA]
    simp only [yn, QaJ, hp, Bool.false_eq_true, if_false]
   | true =>
    rw [Bool.not_true, cond_false, Qbf (by rw [QdB, QdB]; omega), Qav, ← QuA]
    simp only [yn, QaJ, hp, if_true]
  rw [Qjk, decT (by rw [QaS]; omega), cond_true]
  by_cases hp : p = []
  ·have e1 : acc1 = acc := by simp [acc1, hp]
   have e2 : bn1 = bn := by simp [bn1, hp]
   rw [decF (by rw [hp]; simp), cond_false]
   rw [e1, e2] at step
   rw [step, ← hn, e1]
  ·have e1 : acc1 = acc ++ [32] := by simp [acc1, hp]
   have e2 : bn1 = (bn && false) := by simp [bn1, hp]
   have hpl : 0 < p.length := List.length_pos_iff.2 hp
   rw [decT (by omega), cond_true, Qbf (by rw [QdB]; omega), Qav, show bcv acc ++ [[CV.int .u8 32]] = bcv (acc ++ [32]) by simp [bcv]]
   rw [e1, e2] at step
   rw [step, ← hn, e1]
theorem QgN (an : Bool) (l : List Bs) (hl : l.length ≤ 100000000) (hm : QaL l ≤ 100000000) : Ret lb Qap [.list an (scv l)] (.str (Qar l)) := by
 refine .top rfl (.eq (fun n => by rw [QtY]) ?_)
 refine (Evt.diag (QoV lb an l hl hm l [] rfl true [] (Nat.zero_le _))).mono fun n hn => Eq.trans hn ?_
 simp
end Go.Proofs
set_option linter.unusedSimpArgs false
namespace Go.Proofs
open Go.Am
variable (lb : Nat)
def scanQ : Bs → Option Nat
 | [] => none
 | c :: r => if c.toNat = 34 then some 0 else if c.toNat = 92 then (match r with
   | [] => none
   | _ :: r' => (scanQ r').map (· + 2)) else (scanQ r).map (· + 1)
theorem QdH (c : UInt8) (r : Bs) : scanQ (c :: r) = if c.toNat = 34 then some 0 else if c.toNat = 92 then (match r with
   | [] => none
   | _ :: r' => (scanQ r').map (· + 2)) else (scanQ r).map (· + 1) := scanQ.eq_def (c :: r)
theorem Qou : ∀ (N : Nat) (t : Bs) (k : Nat), t.length ≤ N → scanQ t = some k → k < t.length
 | _, [], k, _, h => by simp [scanQ] at h
 | 0, c :: r, k, hN, h => by simp at hN
 | N + 1, c :: r, k, hN, h => by
  rw [QdH] at h
  split at h
  ·simp only [Option.some.injEq] at h; subst h; simp
  split at h
  ·match r, h with
   | [], h => cases h
   | d :: r', h =>
    simp only [Option.map_eq_some_iff] at h
    obtain ⟨j, hj, rfl⟩ := h
    have := Qou N r' j (by simp at hN; omega) hj
    simp; omega
  ·simp only [Option.map_eq_some_iff] at h
   obtain ⟨j, hj, rfl⟩ := h
   have := Qou N r j (by simp at hN; omega) hj
   simp; omega
def endB : Bs → Nat
 | [] => 0
 | c :: r => if c.toNat = 34 then (match scanQ r with
   | some k => k + 2
   | none => r.length + 1) else ((c :: r).takeWhile fun x => !(x.toNat == 32)).length
theorem Qjp (c : UInt8) (r : Bs) : endB (c :: r) = if c.toNat = 34 then (match scanQ r with
   | some k => k + 2
   | none => r.length + 1) else ((c :: r).takeWhile fun x => !(x.toNat == 32)).length := endB.eq_def (c :: r)
theorem Qus (t : Bs) : endB t ≤ t.length := by
 cases t with
 | nil => simp [endB]
 | cons c r =>
  rw [Qjp]
  split
  ·split
   ·rename_i k hk
    have := Qou _ r k (Nat.le_refl _) hk
    simp; omega
   ·simp
  ·exact (List.takeWhile_prefix _).length_le
theorem QvI (c : UInt8) (X : Bs) : scanQ (esc c ++ X) = (scanQ X).map (· + (esc c).length) := by
 unfold esc
 split
 ·simp only [List.cons_append, List.nil_append]
  rw [QdH, if_neg (by decide), if_pos (by decide)]
  rfl
 ·split
  ·rename_i h h2
   have hx : ∀ n, n < 16 → ¬ (hexB n).toNat = 34 ∧ ¬ (hexB n).toNat = 92 := by decide +kernel
   have hc : c.toNat < 256 := c.toNat_lt
   obtain ⟨a1, a2⟩ := hx (c.toNat / 16) (by omega)
   obtain ⟨b1, b2⟩ := hx (c.toNat % 16) (by omega)
   simp only [List.cons_append, List.nil_append]
   rw [QdH, if_neg (by decide), if_pos (by decide)]
   simp only
   rw [QdH, if_neg a1, if_neg a2, QdH, if_neg b1, if_neg b2]
   cases scanQ X <;> simp
  ·rename_i h h2
   simp only [List.cons_append, List.nil_append]
   rw [QdH, if_neg (by omega), if_neg (by omega)]
   rfl
theorem QoQ : ∀ (b X : Bs), scanQ (b.flatMap esc ++ X) = (scanQ X).map (· + (b.flatMap esc).length)
 | [], X => by cases h : scanQ X <;> simp [h]
 | c :: b, X => by
  rw [List.flatMap_cons, List.append_assoc, QvI, QoQ b X]
  cases scanQ X
  ·rfl
  ·simp; omega
theorem QvU (w r : Bs) (hr : r = [] ∨ ∃ r', r = 32 :: r') : endB (QaJ w ++ r) = (QaJ w).length := by
 unfold QaJ
 split
 ·rename_i hp
  simp only [Qce, Bool.and_eq_true] at hp
  match w, hp with
  | [], hp => simp at hp
  | c :: w', ⟨_, hp⟩ =>
   have hall : ∀ x ∈ c :: w', (!(x.toNat == 32)) = true ∧ x.toNat ≠ 34 := by
    intro x hx
    have := List.all_eq_true.1 hp x hx
    simp only [isPl, Bool.and_eq_true, decide_eq_true_eq, Bool.not_eq_true', beq_eq_false_iff_ne] at this
    exact ⟨by simp; omega, this.2⟩
   have h34 := (hall c (List.mem_cons_self ..)).2
   rw [List.cons_append, Qjp, if_neg h34, ← List.cons_append, List.takeWhile_append_of_pos fun x hx => (hall x hx).1]
   rcases hr with rfl | ⟨r', rfl⟩
   ·simp
   ·simp
 ·unfold quo
  rw [List.cons_append, Qjp, if_pos (by decide), List.append_assoc, QoQ]
  rw [List.cons_append, QdH, if_pos (by decide)]
  simp
theorem QuY (s : Bs) (hs : s.length ≤ 1000000000) (b2 : Int) (c3 : UInt8) : ∀ (N : Nat) (t p : Bs), t.length ≤ N → p ++ t = s → Evt fun n => ∀ k, t.length < k →
  Qgt lb n k s b2 c3 (p.length : Int) = some (.int .i64 (match scanQ t with
   | some k => ((p.length + k + 1 : Nat) : Int)
   | none => (s.length : Int)))
 | _, [], p, _, h => .all fun n k hk => by
  obtain ⟨k, rfl⟩ : ∃ m, k = m + 1 := ⟨k - 1, by simp at hk; omega⟩
  have : p = s := by simpa using h
  rw [Qc5, decF (by rw [this]; omega), cond_false, Qh0, decT (by rw [this]; omega), cond_true]
  rfl
 | 0, c :: t, p, hN, _ => by simp at hN
 | N + 1, c :: t, p, hN, h => by
  have hl : s.length = p.length + (t.length + 1) := by rw [← h]; simp
  have hat : atS s (p.length : Int) = some c := Qb8 (by rw [← h]; simp)
  rw [QdH]
  by_cases h34 : c.toNat = 34
  ·refine .all fun n k hk => ?_
   obtain ⟨k, rfl⟩ : ∃ m, k = m + 1 := ⟨k - 1, by simp at hk; omega⟩
   rw [Qc5, decT (by omega), cond_true, hat, Qaf, bneF (by omega), cond_false, Qh0, decF (by omega), cond_false, if_pos h34, Qag (by omega) (by omega)]
   rfl
  rw [if_neg h34]
  by_cases h92 : c.toNat = 92
  ·rw [if_pos h92]
   match t, hl, h with
   | [], hl, h =>
    refine .from 0 fun n k hk => ?_
    obtain ⟨k, rfl⟩ : ∃ m, k = m + 2 := ⟨k - 2, by simp at hk; omega⟩
    simp only [List.length_nil] at hl
    rw [Qc5, decT (by omega), cond_true, hat, Qaf, bneT (by omega), cond_true, Qaf, beqT (by omega), cond_true, Qag (x := (p.length : Int) + 1) (by omega) (by omega), Qag (x := (p.length : Int) + 1 + 1) (by omega) (by omega),
     Qc5, decF (by omega), cond_false, Qh0, decT (by omega), cond_true]
   | d :: t', hl, h =>
    refine (QuY s hs b2 c3 N t' (p ++ [c, d]) (by simp at hN; omega) (by rw [← h]; simp)).mono fun n hn k hk => ?_
    obtain ⟨k, rfl⟩ : ∃ m, k = m + 1 := ⟨k - 1, by simp at hk; omega⟩
    have hn := hn k (by simp at hk; omega)
    simp only [List.length_cons] at hl
    rw [Qc5, decT (by omega), cond_true, hat, Qaf, bneT (by omega), cond_true, Qaf, beqT (by omega), cond_true, Qag (x := (p.length : Int) + 1) (by omega) (by omega), Qag (x := (p.length : Int) + 1 + 1) (by omega) (by omega),
     show (p.length : Int) + 1 + 1 = ((p ++ [c, d]).length : Int) by simp only [List.length_append, List.length_cons, List.length_nil]; omega, hn]
    dsimp only
    cases scanQ t' with
    | none => rfl
    | some j =>
     simp only [Option.map_some, Option.some.injEq, CV.int.injEq, true_and, List.length_append, List.length_cons, List.length_nil]
     omega
  ·rw [if_neg h92]
   refine (QuY s hs b2 c3 N t (p ++ [c]) (by simp at hN; omega) (by rw [← h]; simp)).mono fun n hn k hk => ?_
   obtain ⟨k, rfl⟩ : ∃ m, k = m + 1 := ⟨k - 1, by simp at hk; omega⟩
   have hn := hn k (by simp at hk; omega)
   rw [Qc5, decT (by omega), cond_true, hat, Qaf, bneT (by omega), cond_true, Qaf, beqF (by omega), cond_false, Qag (x := (p.length : Int) + 1) (by omega) (by omega),
    show (p.length : Int) + 1 = ((p ++ [c]).length : Int) by simp, hn]
   cases scanQ t with
   | none => rfl
   | some j =>
    simp only [Option.map_some, Option.some.injEq, CV.int.injEq, true_and, List.length_append, List.length_cons, List.length_nil]
    omega
theorem QuF (s : Bs) (hs : s.length ≤ 1000000000) (b2 : Int) : ∀ (t p : Bs), p ++ t = s → Evt fun n => ∀ k, t.length < k →
  Qiq lb n k s b2 (p.length : Int) = some (.int .i64 ((p.length + (t.takeWhile fun x => !(x.toNat == 32)).length : Nat) : Int))
 | [], p, h => .all fun n k hk => by
  obtain ⟨k, rfl⟩ : ∃ m, k = m + 1 := ⟨k - 1, by simp at hk; omega⟩
  have : p = s := by simpa using h
  rw [Qjv, decF (by rw [this]; omega), cond_false, QlK]
  simp
 | c :: t, p, h => by
  have hl : s.length = p.length + (t.length + 1) := by rw [← h]; simp
  have hat : atS s (p.length : Int) = some c := Qb8 (by rw [← h]; simp)
  refine (QuF s hs b2 t (p ++ [c]) (by rw [← h]; simp)).mono fun n hn k hk => ?_
  obtain ⟨k, rfl⟩ : ∃ m, k = m + 1 := ⟨k - 1, by simp at hk; omega⟩
  have hn := hn k (by simp at hk; omega)
  rw [Qjv, decT (by omega), cond_true, hat, Qaf]
  by_cases h32 : c.toNat = 32
  ·rw [bneF (by omega), cond_false, QlK]
   simp [h32]
  ·rw [bneT (by omega), cond_true, Qag (by omega) (by omega), show (p.length : Int) + 1 = ((p ++ [c]).length : Int) by simp, hn]
   simp [h32]; omega
theorem QtE (s : Bs) (hs : s.length ≤ 1000000000) (p t : Bs) (h : p ++ t = s) : Ret lb QaI [.str s, .int .i64 (p.length : Int)] (.int .i64 ((p.length + endB t : Nat) : Int)) := by
 refine .top rfl (.eq (fun n => by rw [Qvr]) ?_)
 match t, h with
 | [], h =>
  have : p = s := by simpa using h
  simp only [decF (show ¬ (p.length : Int) < (s.length : Int) by rw [this]; omega), cond_false, QlB]
  exact Evt.diag (QuF lb s hs p.length [] p h)
 | c :: t, h =>
  have hl : s.length = p.length + (t.length + 1) := by rw [← h]; simp
  have hat : atS s (p.length : Int) = some c := Qb8 (by rw [← h]; simp)
  simp only [decT (show (p.length : Int) < (s.length : Int) by omega), cond_true]
  simp only [hat]
  simp only [Qaf]
  rw [Qjp]
  by_cases h34 : c.toNat = 34
  ·simp only [beqT (show (c.toNat : Int) = 34 by omega), cond_true, if_pos h34]
   rw [Qag (by omega) (by omega), show (p.length : Int) + 1 = ((p ++ [c]).length : Int) by simp]
   refine (Evt.diag (QuY lb s hs p.length c _ t (p ++ [c]) (Nat.le_refl _) (by rw [← h]; simp))).mono fun n hn => Eq.trans hn ?_
   cases scanQ t with
   | none => simp only [Option.some.injEq, CV.int.injEq, true_and]; omega
   | some j => simp only [List.length_append, List.length_cons, List.length_nil, Option.some.injEq, CV.int.injEq, true_and]; omega
  ·simp only [beqF (show (c.toNat : Int) ≠ 34 by omega), cond_false, if_neg h34, QlB]
   exact Evt.diag (QuF lb s hs p.length (c :: t) p h)
theorem QoT (s : Bs) (l : List Bs) (bn : Bool) (i : Int) (hi : ¬ i < (s.length : Int)) (hl : l.length ≤ 100000000) (hm : QaL l ≤ 100000000) : Evt fun n => ∀ k,
  Qbt lb n (k + 1) s bn (scv l) i = some (if Qar l = s then .tup [.list bn (scv l), .int .i64 0] else .tup [.list true [], .int .i64 3]) := by
 refine (QgN lb bn l hl hm).mono fun n hn k => ?_
 rw [Qh9, decF hi, cond_false, Qpt, hn, Qaf, QbO, Qaf]
 by_cases h : Qar l = s
 ·rw [if_pos h, h]; simp
 ·rw [if_neg h, show (Qar l == s) = false by simpa using h]; simp
theorem Qun (s : Bs) (hs : s.length ≤ 100000000) (p t : Bs) (h : p ++ t = s) (ht : t ≠ []) (l : List Bs) (bn : Bool) (hl : l.length ≤ 100000000) {r : CV} {w : Bs}
  (hw : w = t.take (endB t))
  (hok : ∀ v, (w.head? = some 34 → unq w = some v) → (w.head? ≠ some 34 → v = w) → Evt fun n => ∀ k, t.length ≤ k → Qbt lb n k s false (scv (l ++ [v])) ((p.length + endB t + 1 : Nat) : Int) = some r)
  (hbad : w.head? = some 34 → unq w = none → r = .tup [.list true [], .int .i64 3]) :
  Evt fun n => ∀ k, t.length < k → Qbt lb n k s bn (scv l) (p.length : Int) = some r := by
 have hlen : s.length = p.length + t.length := by rw [← h]; simp
 have htl : 0 < t.length := List.length_pos_iff.2 ht
 have hel := Qus t
 have hwl : w.length ≤ t.length := by rw [hw]; simp; omega
 have hsl : (s.take ((p.length + endB t : Nat) : Int).toNat).drop ((p.length : Int)).toNat = w := by
  rw [Int.toNat_natCast, Int.toNat_natCast, ← h, List.take_append, List.take_of_length_le (by omega), show p.length + endB t - p.length = endB t by omega, List.drop_left, hw]
 have hww : IntKind.wrap .i64 (((p.length + endB t : Nat) : Int) + 1) = ((p.length + endB t + 1 : Nat) : Int) := by rw [Qag (by omega) (by omega)]; rfl
 have r1 : room ((scv l).length + 1) 16 = true := Qbf (by rw [QaS]; omega)
 have hend := QtE lb s (by omega) p t h
 have pre : ∀ n k, C lb n QaI [.str s, .int .i64 (p.length : Int)] = some (.int .i64 ((p.length + endB t : Nat) : Int)) → Qbt lb n (k + 1) s bn (scv l) (p.length : Int) =
   bif (decide ((w.length : Int) > 0)) then (optO (atS w 0) fun c41 => bif ((c41.toNat : Int) == 34) then
    (optO (C lb n Qbk [.str w]) fun ym => optO (CV.asT ym) fun ko => optO (ko[0]?) fun yO => optO (CV.asT ym) fun kH => optO (kH[1]?) fun wu => optO (CV.asI .i64 wu) fun gh =>
     bif (gh != 0) then (some (.tup [.list true [], wu])) else chkO (CV.isCell yO) (chkO (room ((scv l).length + 1) 16) (Qbt lb n k s (bn && false) (scv l ++ [[yO]]) ((p.length + endB t + 1 : Nat) : Int))))
    else chkO (room ((scv l).length + 1) 16) (Qbt lb n k s (bn && false) (scv l ++ [[CV.str w]]) ((p.length + endB t + 1 : Nat) : Int)))
   else chkO (room ((scv l).length + 1) 16) (Qbt lb n k s (bn && false) (scv l ++ [[CV.str w]]) ((p.length + endB t + 1 : Nat) : Int)) := by
  intro n k he
  rw [Qh9, decT (by omega), cond_true, he, Qaf]
  simp only [show CV.asN (.int .i64 ((p.length + endB t : Nat) : Int)) = some ((p.length + endB t : Nat) : Int) from rfl]
  simp only [Qaf]
  rw [decT ⟨by omega, by omega⟩, Qav, decT ⟨by omega, by omega⟩, Qav]
  simp only [hsl, Qae, Qaf, hww]
 by_cases hq : w.head? = some 34
 ·have hat : atS w 0 = some 34 := by
   cases w with
   | nil => simp at hq
   | cons c w' => simp at hq; subst hq; rfl
  have hwpos : 0 < w.length := by
   cases w with
   | nil => simp at hq
   | cons c w' => simp
  cases hu : unq w with
  | none =>
   refine (hend.and (Qj5 lb w (by omega))).mono fun n ⟨he, h2⟩ k hk => ?_
   obtain ⟨k, rfl⟩ : ∃ m, k = m + 1 := ⟨k - 1, by omega⟩
   rw [pre n k he, decT (by omega), cond_true, hat, Qaf, beqT (by decide), cond_true, h2, hu]
   simp only [unqR, Qaf, QbI, get0, get1, Qae]
   rw [bneT (by decide), cond_true, hbad hq hu]
  | some v =>
   refine ((hok v (fun _ => hu) (fun q => (q hq).elim)).and hend).imp2 (Qj5 lb w (by omega)) fun n ⟨hn, he⟩ h2 k hk => ?_
   obtain ⟨k, rfl⟩ : ∃ m, k = m + 1 := ⟨k - 1, by omega⟩
   rw [pre n k he, decT (by omega), cond_true, hat, Qaf, beqT (by decide), cond_true, h2, hu]
   simp only [unqR, Qaf, QbI, get0, get1, Qae, bne_self_eq_false, cond_false, QaX, Qav, r1, Bool.and_false]
   rw [show scv l ++ [[CV.str v]] = scv (l ++ [v]) by simp [scv]]
   exact hn k (by omega)
 ·refine (hok w (fun q => (hq q).elim) (fun _ => rfl)).imp2 hend fun n hn he k hk => ?_
  obtain ⟨k, rfl⟩ : ∃ m, k = m + 1 := ⟨k - 1, by omega⟩
  have hn := hn k (by omega)
  rw [pre n k he]
  simp only [r1, Qav, Bool.and_false]
  rw [show scv l ++ [[CV.str w]] = scv (l ++ [w]) by simp [scv], hn]
  cases w with
  | nil => rfl
  | cons c w' =>
   have hc : c.toNat ≠ 34 := fun q => hq (by rw [show c = 34 from QbQ q]; rfl)
   rw [decT (by simp only [List.length_cons]; omega), cond_true, show atS (c :: w') 0 = some c from rfl, Qaf, beqF (by omega), cond_false]
theorem Quu (s : Bs) (hs : s.length ≤ 100000000) (L : List Bs) (hL : L.length ≤ 100000000) (hm : QaL L ≤ 100000000) (hj : Qar L = s) : ∀ (r done : List Bs) (p : Bs) (bn : Bool), done ++ r = L → r ≠ [] → p ++ Qar r = s → (r = L → done = []) →
  Evt fun n => ∀ k, (Qar r).length < k → Qbt lb n k s bn (scv done) (p.length : Int) = some (.tup [.list false (scv L), .int .i64 0])
 | [], _, _, _, _, h, _, _ => (h rfl).elim
 | w :: r, done, p, bn, hd, _, hp, _ => by
  have hlen : s.length = p.length + (Qar (w :: r)).length := by rw [← hp]; simp
  have hdl : L.length = done.length + (r.length + 1) := by rw [← hd]; simp
  have hjr : ∃ R, Qar (w :: r) = QaJ w ++ R ∧ (R = [] ∨ ∃ r', R = 32 :: r') ∧ (r = [] → R = []) ∧ (r ≠ [] → R = 32 :: Qar r) := by
   cases r with
   | nil => exact ⟨[], by simp [Qar], .inl rfl, fun _ => rfl, fun q => (q rfl).elim⟩
   | cons x r => exact ⟨32 :: Qar (x :: r), QcG w (by simp), .inr ⟨_, rfl⟩, fun q => by simp at q, fun _ => rfl⟩
  obtain ⟨R, hR, hR2, hR3, hR4⟩ := hjr
  have hend : endB (Qar (w :: r)) = (QaJ w).length := by rw [hR, QvU w R hR2]
  have hword : (Qar (w :: r)).take (endB (Qar (w :: r))) = QaJ w := by rw [hend, hR, List.take_left]
  have hne : Qar (w :: r) ≠ [] := fun q => by have := Qmb q; simp at this
  have hv : ∀ v, ((QaJ w).head? = some 34 → unq (QaJ w) = some v) → ((QaJ w).head? ≠ some 34 → v = QaJ w) → v = w := by
   intro v h1 h2
   cases hpl : Qce w with
   | true =>
    have e : QaJ w = w := by simp [QaJ, hpl]
    rw [e] at h1 h2
    refine h2 fun q => ?_
    simp only [Qce, Bool.and_eq_true] at hpl
    cases w with
    | nil => simp at q
    | cons c w' =>
     simp at q; subst q
     simp [isPl] at hpl
   | false =>
    have e : QaJ w = quo w := by simp [QaJ, hpl]
    rw [e] at h1
    have := h1 (by simp [quo])
    rw [Qnd] at this
    simpa using this.symm
  refine Qun lb s hs p (Qar (w :: r)) hp hne done bn (by omega) (w := QaJ w) hword.symm (fun v h1 h2 => ?_) fun h1 h2 => ?_
  ·have := hv v h1 h2
   subst this
   rw [hend]
   by_cases hr : r = []
   ·subst hr
    have hR0 := hR3 rfl
    rw [hR0, List.append_nil] at hR
    have hL' : L = done ++ [v] := by rw [← hd]
    refine (QoT lb s (done ++ [v]) false ((p.length + (QaJ v).length + 1 : Nat) : Int) (by rw [hlen, hR]; omega) (by rw [← hL']; exact hL) (by rw [← hL']; exact hm)).mono fun n hn k hk => ?_
    obtain ⟨k, rfl⟩ : ∃ m, k = m + 1 := ⟨k - 1, by have := List.length_pos_iff.2 hne; omega⟩
    rw [hn k, if_pos (by rw [← hL', hj]), ← hL']
   ·have hRr := hR4 hr
    have hnext : (p ++ QaJ v ++ [32]) ++ Qar r = s := by rw [← hp, hR, hRr]; simp
    have hrl : (Qar (v :: r)).length = (QaJ v).length + ((Qar r).length + 1) := by rw [hR, hRr]; simp
    refine (Quu s hs L hL hm hj r (done ++ [v]) (p ++ QaJ v ++ [32]) false (by rw [← hd]; simp) hr hnext (fun q => by rw [q] at hdl; omega)).mono fun n hn k hk => ?_
    have hn := hn k (by rw [hrl] at hk; omega)
    rw [show ((p.length + (QaJ v).length + 1 : Nat) : Int) = ((p ++ QaJ v ++ [32]).length : Int) by simp; omega]
    exact hn
  ·exfalso
   cases hpl : Qce w with
   | true =>
    have e : QaJ w = w := by simp [QaJ, hpl]
    rw [e] at h1
    simp only [Qce, Bool.and_eq_true] at hpl
    cases w with
    | nil => simp at h1
    | cons c w' =>
     simp at h1; subst h1
     simp [isPl] at hpl
   | false =>
    have e : QaJ w = quo w := by simp [QaJ, hpl]
    rw [e, Qnd] at h2
    cases h2
theorem Qyf {w v : Bs} (h : unq w = some v) : v.length ≤ w.length := by
 have := Qhf v
 rw [QkW h]; omega
theorem QvO (s : Bs) (hs : s.length ≤ 10000000) (hbad : ∀ l, Qar l ≠ s) : ∀ (N : Nat) (t p : Bs) (l : List Bs) (bn : Bool), t.length ≤ N → p ++ t = s → l.length ≤ p.length → QaL l ≤ p.length →
  Evt fun n => ∀ k, t.length < k → Qbt lb n k s bn (scv l) (p.length : Int) = some (.tup [.list true [], .int .i64 3])
 | N, [], p, l, bn, _, h, hl, hsum => by
  have : p = s := by simpa using h
  refine (QoT lb s l bn (p.length : Int) (by rw [this]; omega) (by rw [this] at hl; omega) (by rw [this] at hsum; omega)).mono fun n hn k hk => ?_
  obtain ⟨k, rfl⟩ : ∃ m, k = m + 1 := ⟨k - 1, by omega⟩
  rw [hn k, if_neg (hbad l)]
 | 0, c :: t, _, _, _, hN, _, _, _ => by simp at hN
 | N + 1, c :: t, p, l, bn, hN, h, hl, hsum => by
  have hlen : s.length = p.length + (c :: t).length := by rw [← h]; simp
  have hel := Qus (c :: t)
  have htl : (c :: t).length = t.length + 1 := rfl
  refine Qun lb s (by omega) p (c :: t) h (by simp) l bn (by omega) rfl (fun v h1 h2 => ?_) fun _ _ => rfl
  have hvl : v.length ≤ endB (c :: t) := by
   by_cases hq : ((c :: t).take (endB (c :: t))).head? = some 34
   ·have := Qyf (h1 hq); rw [List.length_take] at this; omega
   ·rw [h2 hq, List.length_take]; omega
  have hsum' : QaL (l ++ [v]) = QaL l + v.length := by rw [QgM, Qb5]; simp [QaL]
  by_cases hlast : endB (c :: t) = (c :: t).length
  ·refine (QoT lb s (l ++ [v]) false ((p.length + endB (c :: t) + 1 : Nat) : Int) (by rw [hlen, hlast]; omega) (by simp; omega) (by omega)).mono fun n hn k hk => ?_
   obtain ⟨k, rfl⟩ : ∃ m, k = m + 1 := ⟨k - 1, by omega⟩
   rw [hn k, if_neg (hbad _)]
  ·have hp' : (p ++ (c :: t).take (endB (c :: t) + 1)).length = p.length + endB (c :: t) + 1 := by rw [List.length_append, List.length_take]; omega
   refine (QvO s hs hbad N ((c :: t).drop (endB (c :: t) + 1)) (p ++ (c :: t).take (endB (c :: t) + 1)) (l ++ [v]) false (by rw [List.length_drop]; omega) (by rw [List.append_assoc, List.take_append_drop]; exact h) (by rw [hp']; simp; omega) (by rw [hp']; omega)).mono fun n hn k hk => ?_
   rw [hp'] at hn
   exact hn k (by rw [List.length_drop]; omega)
theorem Qh2 (s : Bs) (hs : s.length ≤ 10000000) : Ret lb QbE [.str s] (Qi7 s.isEmpty (Qdd s)) := by
 refine .top rfl (.eq (fun n => by rw [Qta]) ?_)
 cases h : Qdd s with
 | none =>
  refine Evt.diag (QvO lb s hs (fun l q => ?_) _ s [] [] true (Nat.le_refl _) rfl (Nat.zero_le _) (by simp [QaL]))
  rw [← q, Qez] at h
  cases h
 | some L =>
  have hj := Qev h
  by_cases h0 : L = []
  ·subst h0
   have hs0 : s = [] := hj
   subst hs0
   refine ((QoT lb [] [] true 0 (by decide) (by simp) (by simp [QaL])).and (Evt.ge 1)).mono fun n ⟨hn, hge⟩ => ?_
   obtain ⟨k, rfl⟩ : ∃ k, n = k + 1 := ⟨n - 1, by omega⟩
   exact hn k
  ·have hbl : QaL L ≤ s.length ∧ L.length ≤ s.length := by
    have hb : ∀ l : List Bs, QaL l ≤ (Qar l).length ∧ l.length ≤ (Qar l).length := by
     intro l
     induction l with
     | nil => simp [QaL, Qar]
     | cons w r ih =>
      have hw := Qd3 w
      have hwn := List.length_pos_iff.2 (Qsi w)
      cases r with
      | nil => simp only [Qar, Qb5, List.length_cons, List.length_nil]; simp [QaL]; omega
      | cons x r =>
       rw [QcG w (by simp), Qb5]
       simp only [List.length_append, List.length_cons] at ih ⊢
       omega
    rw [hj]; exact hb L
   have hne : s.isEmpty = false := by
    cases s with
    | nil => exact (h0 (Qmb hj.symm)).elim
    | cons c r => rfl
   rw [hne]
   have := Quu lb s (by omega) L (by omega) (by omega) hj.symm L [] [] true rfl h0 hj.symm (fun _ => rfl)
   refine (Evt.diag this).mono fun n hn => ?_
   exact hn
end Go.Proofs
