/- What the functions of package text and of its reference answer: quoted texts. Conditions: as each says. -/
import Derived.Test.YtbdclhadjcfadaaGreatDoorG1
import Derived.Test.YtbdclhadjcfadaaGreatDoorRk
import Derived.Laws.RangeAny
import Derived.Laws.RangeString
import Derived.Lib.SplitLaws
set_option linter.unusedSimpArgs false
namespace Go.Proofs
open Go.Am
variable (lb:Nat)
end Go.Proofs
set_option linter.unusedSimpArgs false
namespace Go.Proofs
open Go.Am
variable (lb:Nat)
def isUp (c:UInt8):Bool := decide (65 ≤ c.toNat) && decide (c.toNat ≤ 90)
theorem Qoz {a:Int} {x y:Int} {p:Bool} (hp:p = (decide (x ≤ a) && decide (a ≤ y))):(bif decide (a ≥ x) then some (CV.bool (decide (a ≤ y))) else some (CV.bool false)) = some (CV.bool p) := by
 subst hp
 by_cases h:x ≤ a
 ·simp [h]
 ·simp [h]
theorem QjX (c:UInt8):Ret lb Qb3 [.int .u8 (c.toNat:Int)] (.bool (isUp c)) :=
 .top rfl (.all fun n => by rw [QqN,Qoz (p := isUp c) (by revert c; exact QnE (by decide +kernel))])
theorem Qgi (c:UInt8):Ret lb Qe2 [.int .u8 (c.toNat:Int)] (.bool (isUp c)) :=
 .top rfl (.all fun n => by rw [Qvi,Qoz (p := isUp c) (by revert c; exact QnE (by decide +kernel))])
theorem Ql2 (c:UInt8):Ret lb Qb8 [.int .u8 (c.toNat:Int)] (.bool (isDg c)) :=
 .top rfl (.all fun n => by rw [Qt6,Qoz (p := isDg c) (by revert c; exact QnE (by decide +kernel))])
theorem QiR (c:UInt8):Ret lb Qid [.int .u8 (c.toNat:Int)] (.bool (isDg c)) :=
 .top rfl (.all fun n => by rw [Qwi,Qoz (p := isDg c) (by revert c; exact QnE (by decide +kernel))])
theorem QqL (c:UInt8):Ret lb QcM [.int .u8 (c.toNat:Int)] (.bool (isUp c || isDg c)) := by
 refine .top rfl (.eq (fun n => by rw [Qsu]) ?_)
 refine .call (QjX lb c) ?_
 simp only [QaM,QbU]
 cases isUp c
 ·simp only [cond_false,Bool.false_or]
  refine .call (Ql2 lb c) .done
 ·exact .done
theorem Qhf (s:Bs) (hs:s.length ≤ 281474976710656):Ret lb Qav [.str s, .fn Qb8] (.bool (s.all fun c => isDg c)) := by
 refine .top rfl (.eq (fun n => by rw [QjJ]) ?_)
 refine Evt.diag (m := s.length) (Qmn hs (P := fun p t n k => Qcx lb n k s (p.length:Int) = some (.bool (t.all fun c => isDg c))) ?_ ?_ s [] rfl)
 ·refine .all fun n k => ?_
  rw [Qec,decF (by omega),cond_false,Qip]
  rfl
 ·intro p c t hp hlt hat hw hev
  refine hev.imp2 (Ql2 lb c) fun n hn hc k hk => ?_
  rw [Qec]
  simp only [hlt,decide_true,cond_true,hat,QaM,hc,QbU,hw,List.all_cons]
  cases (isDg c)
  ·rfl
  ·simpa using hn k hk
theorem Qlm (s:Bs) (hs:s.length ≤ 281474976710656):Ret lb Qav [.str s, .fn Qb3] (.bool (s.all fun c => isUp c)) := by
 refine .top rfl (.eq (fun n => by rw [QiQ]) ?_)
 refine Evt.diag (m := s.length) (Qmn hs (P := fun p t n k => Qcg lb n k s (p.length:Int) = some (.bool (t.all fun c => isUp c))) ?_ ?_ s [] rfl)
 ·refine .all fun n k => ?_
  rw [QdT,decF (by omega),cond_false,Qho]
  rfl
 ·intro p c t hp hlt hat hw hev
  refine hev.imp2 (QjX lb c) fun n hn hc k hk => ?_
  rw [QdT]
  simp only [hlt,decide_true,cond_true,hat,QaM,hc,QbU,hw,List.all_cons]
  cases (isUp c)
  ·rfl
  ·simpa using hn k hk
theorem Ql5 (s:Bs) (hs:s.length ≤ 281474976710656):Ret lb Qav [.str s, .fn QcM] (.bool (s.all fun c => isUp c || isDg c)) := by
 refine .top rfl (.eq (fun n => by rw [Qjn]) ?_)
 refine Evt.diag (m := s.length) (Qmn hs (P := fun p t n k => Qcr lb n k s (p.length:Int) = some (.bool (t.all fun c => isUp c || isDg c))) ?_ ?_ s [] rfl)
 ·refine .all fun n k => ?_
  rw [Qd4,decF (by omega),cond_false,QhD]
  rfl
 ·intro p c t hp hlt hat hw hev
  refine hev.imp2 (QqL lb c) fun n hn hc k hk => ?_
  rw [Qd4]
  simp only [hlt,decide_true,cond_true,hat,QaM,hc,QbU,hw,List.all_cons]
  cases (isUp c || isDg c)
  ·rfl
  ·simpa using hn k hk
theorem Qrz (s:Bs) (m:Int) (hs:s.length ≤ 281474976710656):Ret lb QbC [.str s, .int .i64 m] (.bool (s.all isUp && ((s.length:Int) == m))) := by
 refine .top rfl (.eq (fun n => by rw [QrN]) ?_)
 refine Evt.diag (m := s.length) (Qmn hs (P := fun p t n k => QfA lb n k s m (p.length:Int) = some (.bool (t.all isUp && ((s.length:Int) == m)))) ?_ ?_ s [] rfl)
 ·refine .all fun n k => ?_
  rw [Qhv,decF (by omega),cond_false,Qo0]
  rfl
 ·intro p c t hp hlt hat hw hev
  refine hev.imp2 (Qgi lb c) fun n hn hc k hk => ?_
  rw [Qhv]
  simp only [hlt,decide_true,cond_true,hat,QaM,hc,QbU,hw,List.all_cons]
  cases isUp c
  ·rfl
  ·simpa using hn k hk
def QcW (s:Bs):Bool := decide (s.length = 3) && s.all isUp
theorem Qqa (s:Bs) (hs:s.length ≤ 281474976710656):Ret lb QaY [.str s] (.bool (QcW s)) := by
 refine .top rfl (.eq (fun n => by rw [Qqx]) ?_)
 unfold QcW
 by_cases h:s.length = 3
 ·simp only [beqT (show (s.length:Int) = 3 by omega),cond_true,h,decide_true,Bool.true_and]
  exact .call (Qlm lb s hs) .done
 ·simp only [beqF (show (s.length:Int) ≠ 3 by omega),cond_false,h,decide_false,Bool.false_and]
  exact .of trivial
theorem Qqu (s:Bs) (hs:s.length ≤ 281474976710656):Ret lb QiL [.str s] (.bool (QcW s)) := by
 refine .top rfl (.eq (fun n => by rw [Qr0]) ?_)
 refine .call (Qrz lb s 3 hs) ?_
 refine .of ?_
 unfold QcW
 rw [Bool.and_comm,show decide (s.length = 3) = ((s.length:Int) == 3) by
  by_cases h:s.length = 3
  ·rw [beqT (by omega),decT h]
  ·rw [beqF (by omega),decF h]]
def isCd (c:UInt8):Bool := isUp c || isDg c
def QfD (s:Bs) (a b:Int):Bool := decide ((s.length:Int) ≥ a) && (decide ((s.length:Int) ≤ b) && s.all isCd)
theorem QmP (s:Bs) (a b:Int) (hs:s.length ≤ 281474976710656):Ret lb QhV [.str s, .int .i64 a, .int .i64 b] (.bool (QfD s a b)) := by
 refine .top rfl (.eq (fun n => by rw [Qu4]) ?_)
 unfold QfD
 cases decide ((s.length:Int) ≥ a)
 ·exact .done
 cases decide ((s.length:Int) ≤ b)
 ·exact .done
 exact .call (Ql5 lb s hs) .done
theorem QnY (s:Bs) (a b:Int) (hs:s.length ≤ 281474976710656):Ret lb Qb0 [.str s, .int .i64 a, .int .i64 b] (.bool (QfD s a b)) := by
 refine .top rfl (.eq (fun n => by rw [QwS]) ?_)
 unfold QfD
 refine Evt.diag (m := s.length) (Qmn hs (P := fun p t n k => Qf6 lb n k s a b (p.length:Int) = some (.bool (decide ((s.length:Int) ≥ a) && (decide ((s.length:Int) ≤ b) && t.all isCd)))) ?_ ?_ s [] rfl)
 ·refine .all fun n k => ?_
  rw [QjU,decF (by omega),cond_false,Qsg]
  cases decide ((s.length:Int) ≥ a) <;> simp
 ·intro p c t hp hlt hat hw hev
  refine (hev.and (QiR lb c)).imp2 (Qgi lb c) fun n ⟨hn,hd⟩ hc k hk => ?_
  have hn := hn k hk
  rw [QjU]
  simp only [hlt,decide_true,cond_true,hat,QaM,hc,hd,QbU,hw,List.all_cons,isCd] at hn ⊢
  cases isUp c
  ·cases isDg c
   ·simp
   ·simpa using hn
  ·simpa using hn
def QcX (s:Bs):Bool := QfD s 2 2 && !s.all isDg
theorem QpK (s:Bs) (hs:s.length ≤ 281474976710656):Ret lb QaZ [.str s] (.bool (QcX s)) := by
 refine .top rfl (.eq (fun n => by rw [QqQ]) ?_)
 refine .call (QmP lb s 2 2 hs) ?_
 simp only [QaM,QbU]
 unfold QcX
 cases QfD s 2 2
 ·exact .done
 ·simp only [cond_true,Bool.true_and]
  exact .call (Qhf lb s hs) .done
theorem QBl (c:UInt8) (h:isCd c = true):isDg c = !isUp c := by
 revert h; revert c; refine QnE ?_; decide +kernel
theorem Qqy (s:Bs) (hs:s.length ≤ 281474976710656):Ret lb QiY [.str s] (.bool (QcX s)) := by
 refine .top rfl (.eq (fun n => by rw [Qsf]) ?_)
 refine .call (QnY lb s 2 2 hs) ?_
 simp only [QaM,QbU]
 unfold QcX
 cases h:QfD s 2 2
 ·exact .done
 ·simp only [cond_true,Bool.true_and]
  unfold QfD at h
  simp only [Bool.and_eq_true,decide_eq_true_eq] at h
  obtain ⟨h1,h2,h3⟩ := h
  match s,h1,h2,h3 with
  | [x,y],_,_,h3 =>
   simp only [List.all_cons,List.all_nil,Bool.and_true,Bool.and_eq_true] at h3
   simp only [show atS [x,y] 0 = some x from rfl,show atS [x,y] 1 = some y from rfl,QaM,List.all_cons,List.all_nil,Bool.and_true,QBl x h3.1,QBl y h3.2]
   refine .call (Qgi lb x) ?_
   simp only [QaM,QbU]
   cases isUp x
   ·simp only [cond_false]
    refine .call (Qgi lb y) ?_
    exact .of (by simp)
   ·exact .done
  | [],h1,h2,_ => simp at h1
  | [x],h1,h2,_ => simp at h1
  | x :: y :: z :: r,h1,h2,_ => simp at h2; omega
end Go.Proofs
set_option linter.unusedSimpArgs false
namespace Go.Proofs
open Go.Am
variable (lb:Nat)
end Go.Proofs
set_option linter.unusedSimpArgs false
namespace Go.Proofs
open Go.Am
variable (lb:Nat)
theorem Qjw {s X Y:Bs} {c:UInt8} {i:Int} (hs:s = X ++ c :: Y) (h:i = (X.length:Int)):atS s i = some c := by
 subst hs; subst h
 exact QeI (by simp)
end Go.Proofs
set_option linter.unusedSimpArgs false
namespace Go.Proofs
open Go.Am
variable (lb:Nat)
theorem QeV {x:Int} (h0:0 ≤ x) (h1:x < 18446744073709551616):IntKind.wrap .u64 x = x := by
 unfold IntKind.wrap
 simp only [IntKind.bits,IntKind.signed]
 simp
 omega
theorem QwU (s:Bs):Lib.trimPrefix s [45] = QaU s := by
 cases s with
 | nil => rfl
 | cons c r =>
  unfold Lib.trimPrefix Lib.hasPrefix QaU
  by_cases h:c = 45
  ·subst h; simp
  ·have:¬ (45:UInt8) = c := fun q => h q.symm
   simp [h,this]
def QeC (p:Int × Int):CV := .tup [.int .i64 p.1, .int .i64 p.2]
def numR (s:Bs):CV := QeC (numB s)
def numV (neg:Bool) (v:Nat):Int × Int := bif neg then (if v ≤ 9223372036854775808 then (-(v:Int),0) else (0,4)) else (if v < 9223372036854775808 then ((v:Int),0) else (0,4))
theorem Qxu {v:Nat} (h:v ≤ 9223372036854775808):numV true v = (-(v:Int),0) := by unfold numV; rw [cond_true,if_pos h]
theorem Qsb {v:Nat} (h:¬ v ≤ 9223372036854775808):numV true v = (0,4) := by unfold numV; rw [cond_true,if_neg h]
theorem Qw9 {v:Nat} (h:v < 9223372036854775808):numV false v = ((v:Int),0) := by unfold numV; rw [cond_false,if_pos h]
theorem QrU {v:Nat} (h:¬ v < 9223372036854775808):numV false v = (0,4) := by unfold numV; rw [cond_false,if_neg h]
theorem Qfg {s:Bs} (h:QaU s = [] ∨ (QaU s).all isDg = false ∨ ((QaU s).head? = some 48 ∧ s ≠ [48])):numB s = (0,3) := by unfold numB; rw [if_pos h]
theorem Qny {s:Bs} (h1:QaU s ≠ []) (h2:(QaU s).all isDg = true) (h3:¬ ((QaU s).head? = some 48 ∧ s ≠ [48])):numB s = numV (signed s) (valF 0 (QaU s)) := by
 unfold numB numV
 rw [if_neg (by
  rintro (q | q | q)
  ·exact h1 q
  ·rw [h2] at q; cases q
  ·exact h3 q)]
 cases signed s <;> rfl
theorem Qb4 (a b:Int):some (CV.tup [.int .i64 a, .int .i64 b]) = some (QeC (a,b)) := rfl
theorem QAa (s:Bs) (h1:QaU s ≠ []) (h2:(QaU s).all isDg = true):Lib.atoiAll s =
  (if signed s then (if valF 0 (QaU s) ≤ 9223372036854775808 then .ok (-(valF 0 (QaU s):Int)) else .range) else (if valF 0 (QaU s) < 9223372036854775808 then .ok (valF 0 (QaU s):Int) else .range)) := by
 match s,h1,h2 with
 | [],h1,_ => exact (h1 rfl).elim
 | c :: r,h1,h2 =>
  have key:(if c.toNat = 43 ∨ c.toNat = 45 then r else c :: r) = QaU (c :: r) := by
   by_cases h:c = 45
   ·subst h; rfl
   ·have h45:c.toNat ≠ 45 := fun q => h (Qds q)
    have e:QaU (c :: r) = c :: r := by simp [QaU,h]
    rw [e] at h2 ⊢
    simp only [List.all_cons,Bool.and_eq_true,isDg,decide_eq_true_eq] at h2
    rw [if_neg (by omega)]
  unfold Lib.atoiAll
  simp only [key]
  unfold Lib.parseMag
  rw [if_neg h1,QsT _ _ h2 (by decide)]
  have hs:signed (c :: r) = decide (c.toNat = 45) := by
   unfold signed
   by_cases h:c = 45
   ·subst h; rfl
   ·have h45:c.toNat ≠ 45 := fun q => h (Qds q)
    simp [h,h45]
  rw [hs]
  generalize valF 0 (QaU (c :: r)) = v
  by_cases hv:v < 18446744073709551616
  ·rw [if_pos hv]
   by_cases hn:c.toNat = 45
   ·simp only [hn,not_true_eq_false,false_and,if_false,true_and,decide_true,if_true]
    by_cases h5:9223372036854775808 < v
    ·rw [if_pos h5,if_neg (by omega)]
    ·rw [if_neg h5,if_pos (by omega)]
   ·simp only [hn,not_false_eq_true,true_and,false_and,if_false,decide_false,Bool.false_eq_true]
    by_cases h5:9223372036854775808 ≤ v
    ·rw [if_pos h5,if_neg (by omega)]
    ·rw [if_neg h5,if_pos (by omega)]
  ·rw [if_neg hv]
   simp only
   split
   ·rw [if_neg (by omega)]
   ·rw [if_neg (by omega)]
theorem Qq5 (s:Bs) (hs:s.length ≤ 1000000000):Ret (lb + 1) Qdn [.str s] (numR s) := by
 refine .top rfl (.eq (fun n => by rw [Qsh]) ?_)
 have ht:Ret (lb + 1) Qdv [.str s, .str [45]] (.str (QaU s)) := .lib rfl (by simp [QfJ,QwU])
 have hul:(QaU s).length ≤ s.length := by
  cases s with
  | nil => simp [QaU]
  | cons c r => simp only [QaU]; split <;> simp
 refine .call ht ?_
 simp only [QaM,Qdf]
 unfold numR
 by_cases h1:QaU s = []
 ·rw [Qfg (.inl h1)]
  simp only [h1,show (([]:Bs) == []) = true from rfl,cond_true]
  exact .of (Qb4 _ _)
 simp only [show (QaU s == []) = false by simpa using h1,cond_false]
 refine .call (Qhf (lb + 1) (QaU s) (by omega)) ?_
 simp only [QaM,QbU]
 cases h2:(QaU s).all isDg with
 | false =>
  rw [Qfg (.inr (.inl h2))]
  simp only [Bool.not_false,cond_true]
  exact .of (Qb4 _ _)
 | true =>
  simp only [Bool.not_true,cond_false]
  obtain ⟨x,xs,hx⟩ := List.exists_cons_of_ne_nil h1
  have hat:atS (QaU s) 0 = some x := by rw [hx]; rfl
  have hatoi:Ret (lb + 1) QdB [.str s] (match Lib.atoiAll s with
   | .ok v => .tup [.int .i64 v, .nilif]
   | .range => .tup [.int .i64 (Lib.atoiSat s), .err]
   | _ => .tup [.int .i64 0, .err]) := by
   refine .lib rfl ?_
   unfold Qmu
   simp only
   rw [if_pos (by omega)]
   cases Lib.atoiAll s <;> rfl
  have rest:Evt fun n => (optO (C (lb + 1) n QdB [.str s]) fun yk => optO (CV.asT yk) fun oe => optO (oe[0]?) fun oz => optO (CV.asT yk) fun y0 => optO (y0[1]?) fun jq => optO (CV.asE jq) fun mH =>
    bif (!mH) then (some (.tup [.int .i64 0, .int .i64 4])) else (some (.tup [oz, .int .i64 0]))) = some (QeC (numV (signed s) (valF 0 (QaU s)))) := by
   refine .call hatoi ?_
   rw [QAa s h1 h2]
   generalize valF 0 (QaU s) = v
   cases hs:signed s with
   | true =>
    rw [if_pos rfl]
    by_cases hv:v ≤ 9223372036854775808
    ·rw [if_pos hv,Qxu hv]
     simp only [Qdd,get0,get1,QBd,QaM,Bool.not_true,cond_false]
     exact .of (Qb4 _ _)
    ·rw [if_neg hv,Qsb hv]
     simp only [Qdd,get0,get1,QBi,QaM,Bool.not_false,cond_true]
     exact .of (Qb4 _ _)
   | false =>
    rw [if_neg (by decide)]
    by_cases hv:v < 9223372036854775808
    ·rw [if_pos hv,Qw9 hv]
     simp only [Qdd,get0,get1,QBd,QaM,Bool.not_true,cond_false]
     exact .of (Qb4 _ _)
    ·rw [if_neg hv,QrU hv]
     simp only [Qdd,get0,get1,QBi,QaM,Bool.not_false,cond_true]
     exact .of (Qb4 _ _)
  simp only [hat,QaM]
  by_cases h48:x = 48
  ·simp only [beqT (show (x.toNat:Int) = 48 by rw [h48]; rfl),cond_true]
   by_cases h3:s = [48]
   ·have e:(!(s == [48])) = false := by rw [h3]; rfl
    simp only [e,cond_false]
    rw [Qny h1 h2 (by rintro ⟨_,q⟩; exact q h3)]
    exact rest
   ·have e:(!(s == [48])) = true := by simpa using h3
    simp only [e,cond_true]
    rw [Qfg (.inr (.inr ⟨by rw [hx,h48]; rfl,h3⟩))]
    exact .of (Qb4 _ _)
  ·have h48' : x.toNat ≠ 48 := fun q => h48 (Qds q)
   simp only [beqF (show (x.toNat:Int) ≠ 48 by omega),cond_false]
   rw [Qny h1 h2 (by rw [hx]; simp [h48])]
   exact rest
theorem QsK {d:Bs} (h:d.all isDg = true) (hl:d.length ≤ 19):valF 0 d < 10000000000000000000 := by
 have h1 := Qxt d 0 h
 have h2:10 ^ d.length ≤ 10 ^ 19 := Nat.pow_le_pow_right (by decide) hl
 omega
theorem QAA (n:Nat) (s d:Bs) (c:UInt8) (i j:Int) (v:Nat) (hv:v < 18446744073709551616) (hpos:c.toNat = 45 → 1 ≤ v):QiX lb n s c d i (v:Int) j =
  some (QeC (numV (decide (c.toNat = 45)) v)) := by
 rw [Qqr]
 by_cases h:c.toNat = 45
 ·have := hpos h
  simp only [beqT (show (c.toNat:Int) = 45 by omega),cond_true,decT h]
  by_cases h2:v ≤ 9223372036854775808
  ·rw [decT (by omega),cond_true,Qxu h2,QeV (by omega) (by omega),Qad (x := (v:Int) - 1) (by omega) (by omega),Qad (x := 0 - ((v:Int) - 1)) (by omega) (by omega),Qad (by omega) (by omega),
    show 0 - ((v:Int) - 1) - 1 = -(v:Int) by omega]
   exact Qb4 _ _
  ·rw [decF (by omega),cond_false,Qsb h2]
   exact Qb4 _ _
 ·simp only [beqF (show (c.toNat:Int) ≠ 45 by omega),cond_false,decF h]
  by_cases h2:v < 9223372036854775808
  ·rw [decF (by omega),cond_false,Qw9 h2,Qad (by omega) (by omega)]
   exact Qb4 _ _
  ·rw [decT (by omega),cond_true,QrU h2]
   exact Qb4 _ _
theorem QAt (s d:Bs) (c:UInt8) (i:Int) (hd:d.all isDg = true) (hl:d.length ≤ 19) (hpos:c.toNat = 45 → 1 ≤ valF 0 d):Evt fun n => QeP lb n n s c d i 0 0 = some (QeC (numV (decide (c.toNat = 45)) (valF 0 d))) := by
 have hlt := QsK hd hl
 refine Evt.diag (m := d.length) (Qmn (s := d) (by omega) (P := fun p _ n k => QeP lb n k s c d i (valF 0 p:Int) (p.length:Int) = some (QeC (numV (decide (c.toNat = 45)) (valF 0 d)))) ?_ ?_ d [] rfl)
 ·refine .all fun n k => ?_
  rw [QiA,decF (by omega),cond_false,QAA lb n s d c i _ _ (by omega) hpos]
 ·intro p x t hp hlt' hat hw hev
  refine hev.mono fun n hn k hk => ?_
  have hn := hn k hk
  rw [Qk5, ← hw] at hn
  have hpx:(p ++ [x]).all isDg = true ∧ (p ++ [x]).length ≤ 19 := by
   rw [← hp,show p ++ x :: t = (p ++ [x]) ++ t by simp] at hd hl
   rw [List.all_append,Bool.and_eq_true] at hd
   rw [List.length_append] at hl
   exact ⟨hd.1,by omega⟩
  have hv := QsK hpx.1 hpx.2
  rw [Qk5] at hv
  have hx:48 ≤ x.toNat ∧ x.toNat ≤ 57 := by
   have := hpx.1
   rw [List.all_append,Bool.and_eq_true] at this
   simpa [isDg] using this.2
  rw [QiA,decT hlt',cond_true,hat,QaM,QeV (x := 10 * (valF 0 p:Int)) (by omega) (by omega)]
  have e8:IntKind.wrap .u8 ((x.toNat:Int) - 48) = (x.toNat:Int) - 48 := by
   unfold IntKind.wrap
   simp only [IntKind.bits,IntKind.signed]
   simp
   omega
  rw [e8,QeV (x := (x.toNat:Int) - 48) (by omega) (by omega),QeV (by omega) (by omega),show 10 * (valF 0 p:Int) + ((x.toNat:Int) - 48) = ((10 * valF 0 p + (x.toNat - 48):Nat):Int) by omega]
  exact hn
theorem QwL (s d:Bs) (c:UInt8) (hl:d.length ≤ 1000000000) {r:CV} (hr:d.all isDg = true → Evt fun n => QiW lb n s c d (d.length:Int) = some r) (hr2:d.all isDg = false → r = .tup [.int .i64 0, .int .i64 3]) :
  Evt fun n => Qdo lb n n s c d 0 = some r := by
 have step:∀ t p,p ++ t = d → p.all isDg = true → Evt fun n => ∀ k,t.length < k → Qdo lb n k s c d (p.length:Int) = some r := by
  intro t
  induction t with
  | nil =>
   intro p hp hpd
   have:p = d := by simpa using hp
   subst this
   refine (hr hpd).mono fun n hn k hk => ?_
   obtain ⟨k,rfl⟩ : ∃ m,k = m + 1 := ⟨k - 1,by simp at hk; omega⟩
   rw [Qfr,decF (by omega),cond_false,hn]
  | cons x t ih =>
   intro p hp hpd
   have hlen:d.length = p.length + (t.length + 1) := by rw [← hp]; simp
   have hat:atS d (p.length:Int) = some x := QeI (by rw [← hp]; simp)
   cases hx:isDg x with
   | false =>
    have hdd:d.all isDg = false := by rw [← hp,List.all_append,List.all_cons,hx]; simp
    refine (QiR lb x).mono fun n hn k hk => ?_
    obtain ⟨k,rfl⟩ : ∃ m,k = m + 1 := ⟨k - 1,by simp at hk; omega⟩
    rw [Qfr,decT (by omega),cond_true,hat,QaM,hn,QaM,QbU,QaM,hx,hr2 hdd]
    rfl
   | true =>
    refine (ih (p ++ [x]) (by rw [← hp]; simp) (by rw [List.all_append,hpd]; simp [hx])).imp2 (QiR lb x) fun n hi hn k hk => ?_
    obtain ⟨k,rfl⟩ : ∃ m,k = m + 1 := ⟨k - 1,by simp at hk; omega⟩
    have hi := hi k (by simp at hk; omega)
    rw [Qfr,decT (by omega),cond_true,hat,QaM,hn,QaM,QbU,QaM,hx,Bool.not_true,cond_false,Qad (by omega) (by omega),show (p.length:Int) + 1 = ((p ++ [x]).length:Int) by simp]
    exact hi
 exact Evt.diag (step d [] rfl rfl)
theorem QB3 {x:UInt8} {xs:Bs} (hc:QqX (x :: xs)) (h:19 ≤ xs.length):10000000000000000000 ≤ valF 0 (x :: xs) := by
 obtain ⟨_,hd,h3⟩ := hc
 have hx48:x.toNat ≠ 48 := fun q => by
  have := h3 (by rw [show x = 48 from Qds q]; rfl)
  simp only [List.cons.injEq] at this
  rw [this.2] at h; simp at h
 simp only [List.all_cons,Bool.and_eq_true,isDg,decide_eq_true_eq] at hd
 rw [Qfh]
 have h4 := QpH xs (10 * 0 + (x.toNat - 48))
 have h5:10 ^ 19 ≤ 10 ^ xs.length := Nat.pow_le_pow_right (by decide) h
 have h6:10 ^ xs.length * 1 ≤ 10 ^ xs.length * (10 * 0 + (x.toNat - 48)) := Nat.mul_le_mul_left _ (by omega)
 omega
theorem Qta (s d:Bs) (c:UInt8) (hun:QaU s = d) (hsg:signed s = decide (c.toNat = 45)) (h45d:c.toNat ≠ 45 → d = s) (hhd:s.head? = some c) (hl:d.length ≤ 1000000000):Evt fun n => Qgd lb n s c d = some (QeC (numB s)) := by
 refine .eq (fun n => by rw [QpX]) ?_
 by_cases h1:d = []
 ·rw [Qfg (.inl (by rw [hun,h1]))]
  simp only [h1,show (([]:Bs) == []) = true from rfl,cond_true]
  exact .of (Qb4 _ _)
 simp only [show (d == []) = false by simpa using h1,cond_false]
 obtain ⟨x,xs,hx⟩ := List.exists_cons_of_ne_nil h1
 have hat:atS d 0 = some x := by rw [hx]; rfl
 simp only [hat,QaM]
 have rest:¬ (d.head? = some 48 ∧ s ≠ [48]) → Evt fun n => Qdo lb n n s c d 0 = some (QeC (numB s)) := by
  intro hno
  refine QwL lb s d c hl (fun hd => ?_) fun hd => ?_
  ·have hs48:d.head? = some 48 → s = [48] := fun q => Decidable.byContradiction fun q2 => hno ⟨q,q2⟩
   have hcan:QqX d := ⟨h1,hd,fun q => by
    have := hs48 q
    rw [← hun,this]; rfl⟩
   rw [Qny (by rw [hun]; exact h1) (by rw [hun]; exact hd) (by rw [hun]; exact hno),hsg,hun]
   refine .eq (fun n => by rw [QpO]) ?_
   by_cases h19:d.length ≤ 19
   ·simp only [decF (show ¬ (d.length:Int) > 19 by omega),cond_false]
    refine QAt lb s d c _ hd h19 fun h45 => ?_
    refine Decidable.byContradiction fun hz => ?_
    have hz:valF 0 d = 0 := by omega
    have := QvM _ _ rfl hcan
    rw [hz,Lib.decDigits,dif_pos (by decide)] at this
    have h2 := hs48 (by rw [this]; rfl)
    rw [h2] at hhd
    simp only [List.head?_cons,Option.some.injEq] at hhd
    rw [← hhd] at h45
    exact absurd h45 (by decide)
   ·simp only [decT (show (d.length:Int) > 19 by omega),cond_true]
    have hbig:10000000000000000000 ≤ valF 0 d := by
     rw [hx] at hcan h19 ⊢
     exact QB3 hcan (by simp only [List.length_cons] at h19; omega)
    cases decide (c.toNat = 45)
    ·rw [QrU (by omega)]; exact .of (Qb4 _ _)
    ·rw [Qsb (by omega)]; exact .of (Qb4 _ _)
  ·rw [Qfg (.inr (.inl (by rw [hun]; exact hd)))]; rfl
 by_cases h48:x = 48
 ·simp only [beqT (show (x.toNat:Int) = 48 by rw [h48]; rfl),cond_true]
  by_cases h45:c.toNat = 45
  ·have hne:s ≠ [48] := fun q => by
    rw [q] at hhd
    simp only [List.head?_cons,Option.some.injEq] at hhd
    rw [← hhd] at h45
    exact absurd h45 (by decide)
   simp only [beqT (show (c.toNat:Int) = 45 by omega),cond_true]
   rw [Qfg (.inr (.inr ⟨by rw [hun,hx,h48]; rfl,hne⟩))]
   exact .of (Qb4 _ _)
  ·have hds := h45d h45
   simp only [beqF (show (c.toNat:Int) ≠ 45 by omega),cond_false]
   by_cases hlen:d.length > 1
   ·simp only [decT (show (d.length:Int) > 1 by omega),cond_true]
    rw [Qfg (.inr (.inr ⟨by rw [hun,hx,h48]; rfl,fun q => by rw [hds,q] at hlen; simp at hlen⟩))]
    exact .of (Qb4 _ _)
   ·simp only [decF (show ¬ (d.length:Int) > 1 by omega),cond_false]
    refine rest fun ⟨_,q⟩ => q ?_
    have e2:xs = [] := by
     rw [hx] at hlen
     simp only [List.length_cons] at hlen
     exact List.eq_nil_of_length_eq_zero (by omega)
    rw [← hds,hx,h48,e2]
 ·have h48' : x.toNat ≠ 48 := fun q => h48 (Qds q)
  simp only [beqF (show (x.toNat:Int) ≠ 48 by omega),cond_false]
  exact rest fun ⟨q,_⟩ => by rw [hx] at q; simp at q; exact h48 q
theorem Qr1 (s:Bs) (hs:s.length ≤ 1000000000):Ret lb Qaz [.str s] (numR s) := by
 refine .top rfl (.eq (fun n => by rw [Qub]) ?_)
 unfold numR
 match s,hs with
 | [],_ =>
  refine .all fun n => ?_
  rw [decF (by simp),cond_false,Qp1,Qfg (.inl rfl)]
  rfl
 | c :: r,hs =>
  rw [decT (show ((c :: r).length:Int) > 0 by simp only [List.length_cons]; omega)]
  simp only [cond_true]
  simp only [show atS (c :: r) 0 = some c from rfl]
  simp only [QaM]
  by_cases h45:c.toNat = 45
  ·have hc:c = 45 := Qds h45
   subst hc
   simp only [beqT (show (((45:UInt8).toNat:Int)) = 45 by decide),cond_true]
   refine .chk (decT ⟨by omega,by simp only [List.length_cons]; omega⟩) ?_
   rw [Int.toNat_natCast,List.take_length]
   exact Qta lb (45 :: r) r 45 rfl rfl (fun q => (q h45).elim) rfl (by simp only [List.length_cons] at hs; omega)
  ·simp only [beqF (show (c.toNat:Int) ≠ 45 by omega),cond_false]
   have hc:c ≠ 45 := fun q => h45 (by rw [q]; rfl)
   exact Qta lb (c :: r) (c :: r) c (by simp [QaU,hc]) (by simp [signed,hc,h45]) (fun _ => rfl) rfl hs
theorem QdH (z:Int) (h0 : -9223372036854775808 ≤ z) (h1:z ≤ 9223372036854775807):Ret lb Qb2 [.int .i64 z] (.str (Lib.itoa z)) := by
 refine .top rfl (.eq (fun n => by rw [QqT]) ?_)
 refine .call (v := .str (Lib.itoa z)) (.lib rfl ?_) .done
 simp only [QmA,if_pos (And.intro h0 h1),Qwb h0 h1]
theorem QsF:∀ d,d < 10 → (([48,49,50,51,52,53,54,55,56,57]:Bs).take (d + 1)).drop d = [UInt8.ofNat (48 + d)] := by decide +kernel
theorem Ql0:∀ (N u:Nat),u ≤ N → u < 18446744073709551616 → Ret lb Qfu [.int .u64 (u:Int)] (.str (Lib.decDigits u)) := by
 intro N
 induction N with
 | zero =>
  intro u hu _
  have:u = 0 := by omega
  subst this
  refine .top rfl (.all fun n => ?_)
  rw [Qnd,Lib.decDigits,dif_pos (by decide)]
  rfl
 | succ N ih =>
  intro u hu h64
  refine .top rfl (.eq (fun n => by rw [Qnd]) ?_)
  by_cases h:u < 10
  ·simp only [decT (show (u:Int) < 10 by omega),cond_true,QeV (x := (u:Int) + 1) (by omega) (by omega)]
   refine .chk (decT ⟨by omega,by omega⟩) (.chk (decT ⟨by omega,by omega⟩) ?_)
   rw [Lib.decDigits,dif_pos h,show ((u:Int) + 1).toNat = u + 1 by omega,Int.toNat_natCast,QsF u h]
   exact .done
  ·simp only [decF (show ¬ (u:Int) < 10 by omega),cond_false]
   have e1:IntKind.wrap .u64 (Int.tdiv (u:Int) 10) = ((u / 10:Nat):Int) := by
    rw [show Int.tdiv (u:Int) 10 = ((u / 10:Nat):Int) from rfl,QeV (by omega) (by omega)]
   have e2:Int.tmod (u:Int) 10 = ((u % 10:Nat):Int) := rfl
   have e3:IntKind.wrap .u64 (((u % 10:Nat):Int) + 1) = ((u % 10 + 1:Nat):Int) := by rw [QeV (by omega) (by omega)]; omega
   simp only [e1,e2,e3]
   refine .call (ih (u / 10) (by omega) (by omega)) ?_
   refine .chk (decT ⟨by omega,by omega⟩) (.chk (decT ⟨by omega,by omega⟩) ?_)
   simp only [QaM,Qdf,Int.toNat_natCast,QsF _ (show u % 10 < 10 by omega)]
   rw [Lib.decDigits.eq_def u,dif_neg h]
   refine .chk (decT ?_) .done
   have := Qdp (z := ((u / 10:Nat):Int)) (by omega) (by omega)
   unfold Lib.itoa at this
   rw [if_neg (by omega),Int.toNat_natCast] at this
   simp only [List.length_cons,List.length_nil]
   omega
theorem Qhh (z:Int) (h0 : -9223372036854775808 ≤ z) (h1:z ≤ 9223372036854775807):Ret lb QcP [.int .i64 z] (.str (Lib.itoa z)) := by
 refine .top rfl (.eq (fun n => by rw [Qr7]) ?_)
 unfold Lib.itoa
 by_cases h:z < 0
 ·simp only [decT h,cond_true,if_pos h,Qad (x := z + 1) (by omega) (by omega),Qad (x := 0 - (z + 1)) (by omega) (by omega),QeV (x := 0 - (z + 1)) (by omega) (by omega),QeV (x := 0 - (z + 1) + 1) (by omega) (by omega)]
  rw [show 0 - (z + 1) + 1 = (z.natAbs:Int) by omega]
  refine .call (Ql0 lb z.natAbs z.natAbs (Nat.le_refl _) (by omega)) ?_
  simp only [QaM,Qdf]
  refine .chk (decT ?_) .done
  have := Qdp h0 h1
  unfold Lib.itoa at this
  rw [if_pos h] at this
  simp only [List.length_cons,List.length_nil] at this ⊢
  omega
 ·simp only [decF h,cond_false,if_neg h,QeV (x := z) (by omega) (by omega)]
  have := Ql0 lb z.toNat z.toNat (Nat.le_refl _) (by omega)
  rw [show ((z.toNat:Nat):Int) = z by omega] at this
  exact .call this .done
end Go.Proofs
set_option linter.unusedSimpArgs false
namespace Go.Proofs
open Go.Am
variable (lb:Nat)
end Go.Proofs
set_option linter.unusedSimpArgs false
namespace Go.Proofs
open Go.Am
variable (lb:Nat)
def QaJ (c:UInt8):Bs → List Bs
 | [] => [[]]
 | x :: r => if x = c then [] :: QaJ c r else match QaJ c r with
  | w :: ws => (x :: w) :: ws
  | [] => [[x]]
theorem QkM (c:UInt8):∀ s,QaJ c s ≠ []
 | [] => by simp [QaJ]
 | x :: r => by
  unfold QaJ
  split
  ·simp
  ·split <;> simp
theorem Qm8 (c:UInt8) (l:Bs):Lib.index (c :: l) [c] = 0 := by
 rw [Lib.index]
 simp
theorem Qt4 {b c:UInt8} (l:Bs) (h:b ≠ c):Lib.index (b :: l) [c] = if Lib.index l [c] = -1 then -1 else Lib.index l [c] + 1 := by
 rw [Lib.index]
 have:¬ c = b := fun q => h q.symm
 simp [this]
theorem QwO {c:UInt8} {l:Bs} (h:Lib.count l [c] ≠ 0):Lib.index l [c] ≠ -1 := by
 intro q
 apply h
 unfold Lib.count
 rw [Lib.countFrom]
 simp [q]
theorem Qmm {c:UInt8} {k:Nat} {l:Bs} (h:Lib.index l [c] ≠ -1):Lib.splitK [c] 0 (k + 1) l = l.take (Lib.index l [c]).toNat :: Lib.splitK [c] 0 k (l.drop ((Lib.index l [c]).toNat + 1)) := by
 rw [Lib.splitK]
 have:(Lib.index l [c] == -1) = false := by simpa using h
 simp [this]
theorem Qtv (c:UInt8):∀ s:Bs,Lib.split s [c] = QaJ c s
 | [] => by simp [Lib.split,Lib.count,Lib.countFrom,Lib.index,QaJ,Lib.splitK]
 | x :: l => by
  have ih := Qtv c l
  unfold Lib.split at ih ⊢
  by_cases h:x = c
  ·subst h
   rw [Lib.count_cons_eq,Nat.add_comm 1,Qmm (by rw [Qm8]; decide),Qm8]
   simp only [QaJ,if_true]
   simpa using ih
  ·rw [Lib.count_cons_ne x c l h]
   cases hk:Lib.count l [c] with
   | zero =>
    rw [hk] at ih
    simp only [Lib.splitK] at ih ⊢
    simp [QaJ,h, ← ih]
   | succ k =>
    have hi := QwO (c := c) (l := l) (by omega)
    have hge := Lib.index_ge l [c]
    rw [hk,Qmm hi] at ih
    have hx:Lib.index (x :: l) [c] = Lib.index l [c] + 1 := by rw [Qt4 l h,if_neg hi]
    rw [Qmm (by rw [hx]; omega),hx]
    obtain ⟨i,hi'⟩ : ∃ i:Nat,Lib.index l [c] = i := ⟨(Lib.index l [c]).toNat,by omega⟩
    rw [hi'] at ih ⊢
    rw [show ((i:Int) + 1).toNat = i + 1 by omega,List.take_succ_cons,List.drop_succ_cons]
    rw [Int.toNat_natCast] at ih
    simp [QaJ,h, ← ih]
theorem Qhc (c:UInt8):∀ s,(QaJ c s).length ≤ s.length + 1 ∧ ∀ w ∈ QaJ c s,w.length ≤ s.length
 | [] => by simp [QaJ]
 | x :: r => by
  obtain ⟨h1,h2⟩ := Qhc c r
  unfold QaJ
  split
  ·refine ⟨by simp; omega,fun w hw => ?_⟩
   rcases List.mem_cons.1 hw with rfl | hw
   ·simp
   ·have := h2 w hw; simp; omega
  ·split
   ·rename_i w ws hs
    rw [hs] at h1 h2
    refine ⟨by simp at h1 ⊢; omega,fun v hv => ?_⟩
    rcases List.mem_cons.1 hv with rfl | hv
    ·have := h2 w (List.mem_cons_self ..); simp; omega
    ·have := h2 v (List.mem_cons_of_mem _ hv); simp; omega
   ·refine ⟨by simp,fun v hv => ?_⟩
    simp only [List.mem_cons,List.not_mem_nil,or_false] at hv
    subst hv; simp
theorem QsZ (s:Bs) (c:UInt8) (hs:s.length ≤ 1000000000):Ret lb QcE [.str s, .str [c]] (.list false (scv (QaJ c s))) := by
 refine .lib rfl ?_
 unfold Qk6
 simp only
 rw [if_pos ⟨by omega,by simp⟩,Qtv]
 rfl
end Go.Proofs
set_option linter.unusedSimpArgs false
namespace Go.Proofs
open Go.Am
variable (lb:Nat)
theorem Qtg (an bn:Bool) (a:List Bs) (ha:a.length ≤ 1000000000):∀ (b:List Bs),a.length = b.length → ∀ t p u q,p ++ t = a → q ++ u = b → p.length = q.length → Evt fun n => ∀ k,t.length < k →
  r01_Same_L1 lb n k an (scv a) bn (scv b) (p.length:Int) = some (.bool (decide (t = u)))
 | b,hab,[],p,u,q,hp,hq,hpq => .all fun n k hk => by
  obtain ⟨k,rfl⟩ : ∃ m,k = m + 1 := ⟨k - 1,by simp at hk; omega⟩
  have hpa:p = a := by simpa using hp
  have hu:u = [] := by
   rw [← hq,List.length_append] at hab
   rw [hpa] at hpq
   exact List.eq_nil_of_length_eq_zero (by omega)
  rw [Qj1,decF (by rw [hpa,Qas]; omega),cond_false,Qsp,hu]
  rfl
 | b,hab,x :: t,p,u,q,hp,hq,hpq => by
  have hal:a.length = p.length + (t.length + 1) := by rw [← hp]; simp
  have hbl:b.length = q.length + u.length := by rw [← hq]; simp
  obtain ⟨y,u',rfl⟩ : ∃ y u',u = y :: u' := List.exists_cons_of_ne_nil (fun e => by rw [e] at hbl; simp at hbl; omega)
  have hat:atL (scv a) (p.length:Int) = some [.str x] := QlE (Qoq (by rw [← hp]; simp))
  have hbt:atL (scv b) (p.length:Int) = some [.str y] := QlE (Qoq (by rw [← hq,hpq]; simp))
  refine (Qtg an bn a ha b hab t (p ++ [x]) u' (q ++ [y]) (by rw [← hp]; simp) (by rw [← hq]; simp) (by simp [hpq])).mono fun n hn k hk => ?_
  obtain ⟨k,rfl⟩ : ∃ m,k = m + 1 := ⟨k - 1,by simp at hk; omega⟩
  have hn := hn k (by simp at hk; omega)
  rw [Qj1,decT (by rw [Qas]; omega),cond_true]
  simp only [hat,hbt,QaM,List.length_cons,List.length_nil,Nat.zero_add,beq_self_eq_true,Qdb,get0,Qdf,Qad (x := (p.length:Int) + 1) (by omega) (by omega)]
  rw [show (p.length:Int) + 1 = ((p ++ [x]).length:Int) by simp,hn]
  by_cases h:x = y
  ·subst h; simp
  ·have:(x == y) = false := by simpa using h
   simp [this,h]
theorem Qvt (an bn:Bool) (a b:List Bs) (ha:a.length ≤ 1000000000):Ret lb Qce [.list an (scv a), .list bn (scv b)] (.bool (decide (a = b))) := by
 refine .top rfl (.eq (fun n => by rw [Qwv]) ?_)
 simp only [Qas]
 by_cases h:a.length = b.length
 ·simp only [bneF (show (a.length:Int) = (b.length:Int) by omega),cond_false]
  exact Evt.diag (Qtg lb an bn a ha b h a [] b [] rfl rfl rfl)
 ·simp only [bneT (show (a.length:Int) ≠ (b.length:Int) by omega),cond_true]
  rw [decF (fun e => h (by rw [e]))]
  exact .done
end Go.Proofs
