/- Chapter 7 on plain data: airports, zones, periods; finding an airport, the minute UTC of a local minute, the days of a period. Conditions: as each says. -/
import Derived.Test.YtbdclhadjcfadaaGreatDoorGa
import Derived.Test.YtbdclhadjcfadaaGreatDoorRA
import Derived.Test.YtbdclhadjcfadaaGreatDoorGb
set_option linter.unusedSimpArgs false
namespace Go.Proofs
open Go.Am
variable (lb:Nat)
end Go.Proofs
set_option linter.unusedSimpArgs false
namespace Go.Proofs
open Go.Am
variable (lb:Nat)
theorem Qgr (fr to days:Int):Ret lb Qcl [.agg [.int .i64 fr, .int .i64 to, .int .i64 days]] (.int .i64 (perE fr to days)) := by
 refine .top rfl (.eq (fun n => by rw [Qrg]) (.of ?_))
 unfold perE
 by_cases h1:fr < 0
 ·rw [decT h1,cond_true,if_pos (.inl h1)]
 by_cases h2:to < fr
 ·rw [decF h1,cond_false,decT h2,cond_true,if_pos (.inr (.inl h2))]
 by_cases h3:to ≥ 36525
 ·rw [decF h1,cond_false,decF h2,cond_false,decT h3,cond_true,if_pos (.inr (.inr h3))]
 rw [decF h1,cond_false,decF h2,cond_false,decF h3,cond_false,if_neg (by omega),Qad (by omega) (by omega)]
 by_cases h4:to - fr ≥ 800
 ·rw [decT h4,cond_true,if_pos h4]
 rw [decF h4,cond_false,if_neg h4]
 by_cases h5:days < 1
 ·rw [decT h5,cond_true,if_pos (.inl h5)]
 by_cases h6:days > 127
 ·rw [decF h5,cond_false,decT h6,cond_true,if_pos (.inr h6)]
 rw [decF h5,cond_false,decF h6,cond_false,if_neg (by omega)]
theorem QiT (fr to days:Int):Ret lb Qdy [.agg [.int .i64 fr, .int .i64 to, .int .i64 days]] (.int .i64 (perE fr to days)) := by
 refine .top rfl (.eq (fun n => by rw [Qvk]) (.of ?_))
 unfold perE
 by_cases h1:fr < 0
 ·rw [decT h1,cond_true,if_pos (.inl h1)]
 by_cases h2:fr > to
 ·rw [decF h1,cond_false,decT h2,cond_true,if_pos (.inr (.inl h2))]
 by_cases h3:to ≥ 36525
 ·rw [decF h1,cond_false,decF h2,cond_false,decT h3,cond_true,if_pos (.inr (.inr h3))]
 rw [decF h1,cond_false,decF h2,cond_false,decF h3,cond_false,if_neg (by omega),Qad (by omega) (by omega)]
 by_cases h4:to - fr ≥ 800
 ·rw [decT h4,cond_true,if_pos h4]
 rw [decF h4,cond_false,if_neg h4]
 by_cases h5:days < 1
 ·rw [decT h5,cond_true,if_pos (.inl h5)]
 by_cases h6:days > 127
 ·rw [decF h5,cond_false,decT h6,cond_true,if_pos (.inr h6)]
 rw [decF h5,cond_false,decF h6,cond_false,if_neg (by omega)]
end Go.Proofs
set_option linter.unusedSimpArgs false
namespace Go.Proofs
open Go.Am
variable (lb:Nat)
end Go.Proofs
set_option linter.unusedSimpArgs false
namespace Go.Proofs
open Go.Am
variable (lb:Nat)
def lenF (y m:Int):Int := if m = 2 then (if Int.tmod y 4 = 0 then 29 else 28) else if m = 4 ∨ m = 6 ∨ m = 9 ∨ m = 11 then 30 else 31
theorem Qyw (y m:Int) (h:1 ≤ m ∧ m ≤ 12):Qjt y m = some (lenF y m) := by
 have:m = 1 ∨ m = 2 ∨ m = 3 ∨ m = 4 ∨ m = 5 ∨ m = 6 ∨ m = 7 ∨ m = 8 ∨ m = 9 ∨ m = 10 ∨ m = 11 ∨ m = 12 := by omega
 rcases this with rfl | rfl | rfl | rfl | rfl | rfl | rfl | rfl | rfl | rfl | rfl | rfl
 ·rfl
 ·unfold Qjt lenF
  by_cases h:Int.tmod y 4 = 0
  ·rw [if_pos ⟨rfl,h⟩,if_pos rfl,if_pos h]
  ·rw [if_neg (fun q => h q.2),if_pos (by decide),if_pos rfl,if_neg h]
   rfl
 all_goals rfl
theorem Qe5 (y m:Int) (h:1 ≤ m ∧ m ≤ 12):Ret lb QbK [.int .i64 y, .int .i64 m] (.int .i64 (lenF y m)) :=
 .lib (s := Qjc) rfl (by
  show (Qjt y m).map (CV.int .i64 ·) = _
  rw [Qyw y m h]; rfl)
theorem Qeq (y m:Int):Ret lb Qbb [.int .i64 y, .int .i64 m] (.int .i64 (lenF y m)) := by
 refine .top rfl (.eq (fun n => by rw [QtP]) (.all fun n => ?_))
 unfold lenF
 simp only [Qqs]
 by_cases h4:m = 4
 ·subst h4; rfl
 by_cases h6:m = 6
 ·subst h6; rfl
 by_cases h9:m = 9
 ·subst h9; rfl
 rw [beqF h4,cond_false,beqF h6,cond_false,beqF h9,cond_false]
 by_cases h11:m = 11
 ·subst h11; rfl
 rw [beqF h11,cond_false]
 by_cases h2:m = 2
 ·subst h2
  rw [beqT rfl,cond_true,if_pos rfl]
  by_cases h:Int.tmod y 4 = 0
  ·rw [beqT h,cond_true,if_pos h]
  ·rw [beqF h,cond_false,if_neg h]
 ·rw [beqF h2,cond_false,if_neg h2,if_neg (by omega)]
theorem QbM (y m:Int):28 ≤ lenF y m ∧ lenF y m ≤ 31 := by
 unfold lenF
 split
 ·split <;> omega
 ·split <;> omega
def QaA (y:Int):Int := 365 * (y - 2000) + Int.tdiv (y - 2000 + 3) 4
theorem Qfl (y:Int) (h:2000 ≤ y ∧ y ≤ 2200):Ret lb QdP [.int .i64 y] (.int .i64 (QaA y)) := by
 refine .top rfl (.eq (fun n => by rw [QoR]) (.of ?_))
 have h1:0 ≤ Int.tdiv (y - 2000 + 3) 4 := Int.tdiv_nonneg (by omega) (by omega)
 have h2:Int.tdiv (y - 2000 + 3) 4 ≤ 300 := by rw [Int.tdiv_eq_ediv_of_nonneg (by omega)]; omega
 rw [Qad (x := y - 2000) (by omega) (by omega),Qad (x := 365 * (y - 2000)) (by omega) (by omega),Qad (x := y - 2000 + 3) (by omega) (by omega),Qad (x := Int.tdiv (y - 2000 + 3) 4) (by omega) (by omega),Qad (by omega) (by omega)]
 rfl
theorem QhY (y:Int) (h:2000 ≤ y):QaA (y + 1) = QaA y + (if Int.tmod y 4 = 0 then 366 else 365) := by
 unfold QaA
 rw [Int.tdiv_eq_ediv_of_nonneg (by omega),Int.tdiv_eq_ediv_of_nonneg (by omega),Int.tmod_eq_emod_of_nonneg (by omega)]
 split <;> omega
def Qbt (y:Int):Nat → Int → Int → (Int × Int × Int) ⊕ Int
 | 0,_,rest => .inr rest
 | k + 1,m,rest => if rest < lenF y (m + 1) then .inl (y,m + 1,rest + 1) else Qbt y k (m + 1) (rest - lenF y (m + 1))
def sumL (y:Int):Nat → Int → Int
 | 0,_ => 0
 | k + 1,m => lenF y (m + 1) + sumL y k (m + 1)
theorem QpD (y:Int):∀ (k:Nat) (m:Int),0 ≤ sumL y k m
 | 0,_ => by simp [sumL]
 | k + 1,m => by
  have := QpD y k (m + 1)
  have := QbM y (m + 1)
  simp only [sumL]
  omega
theorem QsR (y:Int):sumL y 12 0 = (if Int.tmod y 4 = 0 then 366 else 365) := by
 have e1:lenF y (0 + 1) = 31 := rfl
 have e2:lenF y (0 + 1 + 1) = if Int.tmod y 4 = 0 then 29 else 28 := rfl
 have e3:lenF y (0 + 1 + 1 + 1) = 31 := rfl
 have e4:lenF y (0 + 1 + 1 + 1 + 1) = 30 := rfl
 have e5:lenF y (0 + 1 + 1 + 1 + 1 + 1) = 31 := rfl
 have e6:lenF y (0 + 1 + 1 + 1 + 1 + 1 + 1) = 30 := rfl
 have e7:lenF y (0 + 1 + 1 + 1 + 1 + 1 + 1 + 1) = 31 := rfl
 have e8:lenF y (0 + 1 + 1 + 1 + 1 + 1 + 1 + 1 + 1) = 31 := rfl
 have e9:lenF y (0 + 1 + 1 + 1 + 1 + 1 + 1 + 1 + 1 + 1) = 30 := rfl
 have e10:lenF y (0 + 1 + 1 + 1 + 1 + 1 + 1 + 1 + 1 + 1 + 1) = 31 := rfl
 have e11:lenF y (0 + 1 + 1 + 1 + 1 + 1 + 1 + 1 + 1 + 1 + 1 + 1) = 30 := rfl
 have e12:lenF y (0 + 1 + 1 + 1 + 1 + 1 + 1 + 1 + 1 + 1 + 1 + 1 + 1) = 31 := rfl
 simp only [sumL,e1,e2,e3,e4,e5,e6,e7,e8,e9,e10,e11,e12]
 split <;> omega
theorem Qlg (y:Int):∀ (k:Nat) (m rest:Int),0 ≤ rest → (∀ t,Qbt y k m rest = .inl t → rest < sumL y k m) ∧ (∀ r,Qbt y k m rest = .inr r → r = rest - sumL y k m ∧ 0 ≤ r)
 | 0,m,rest,h => by
  refine ⟨fun t q => (by cases q),fun r q => ?_⟩
  cases q
  exact ⟨by simp [sumL],h⟩
 | k + 1,m,rest,h => by
  have hr := QbM y (m + 1)
  have hn := QpD y k (m + 1)
  by_cases c:rest < lenF y (m + 1)
  ·simp only [Qbt,if_pos c,sumL]
   exact ⟨fun t q => (by omega),fun r q => (by cases q)⟩
  ·simp only [Qbt,if_neg c,sumL]
   have ih := Qlg y k (m + 1) (rest - lenF y (m + 1)) (by omega)
   refine ⟨fun t q => ?_,fun r q => ?_⟩
   ·have := ih.1 t q; omega
   ·have := ih.2 r q; omega
theorem Qpg (y rest:Int) (h:rest ≥ (if Int.tmod y 4 = 0 then 366 else 365)):Qbt y 12 0 rest = .inr (rest - (if Int.tmod y 4 = 0 then 366 else 365)) := by
 have h0:0 ≤ rest := by split at h <;> omega
 have hs := Qlg y 12 0 rest h0
 rw [QsR] at hs
 cases e:Qbt y 12 0 rest with
 | inl t => have := hs.1 t e; omega
 | inr r => rw [(hs.2 r e).1]
theorem Qpk (y rest:Int) (h0:0 ≤ rest) (h:rest < (if Int.tmod y 4 = 0 then 366 else 365)):∃ t,Qbt y 12 0 rest = .inl t := by
 have hs := Qlg y 12 0 rest h0
 rw [QsR] at hs
 cases e:Qbt y 12 0 rest with
 | inl t => exact ⟨t,rfl⟩
 | inr r => have := hs.2 r e; omega
theorem Qle (y:Int):∀ (k:Nat) (m rest:Int),0 ≤ rest → (∀ t,Qbt y k m rest = .inl t → t.1 = y ∧ m + 1 ≤ t.2.1 ∧ t.2.1 ≤ m + k ∧ 1 ≤ t.2.2 ∧ t.2.2 ≤ lenF y t.2.1) ∧ (∀ r,Qbt y k m rest = .inr r → 0 ≤ r ∧ rest ≥ r + 28 * k)
 | 0,m,rest,h => by
  refine ⟨fun t q => (by cases q),fun r q => ?_⟩
  cases q
  exact ⟨h,by simp⟩
 | k + 1,m,rest,h => by
  have hr := QbM y (m + 1)
  by_cases c:rest < lenF y (m + 1)
  ·simp only [Qbt,if_pos c]
   refine ⟨fun t q => ?_,fun r q => by cases q⟩
   cases q
   simp only
   refine ⟨trivial,by omega,by omega,by omega,by omega⟩
  ·simp only [Qbt,if_neg c]
   have ih := Qle y k (m + 1) (rest - lenF y (m + 1)) (by omega)
   refine ⟨fun t q => ?_,fun r q => ?_⟩
   ·have := ih.1 t q
    refine ⟨this.1,by omega,by omega,this.2.2.2⟩
   ·have := ih.2 r q
    refine ⟨this.1,by omega⟩
def Qlw (D Y:Int):Prop := 2000 ≤ Y ∧ Y ≤ 2099 ∧ QaA Y ≤ D ∧ D < QaA (Y + 1)
theorem Qo5 {a b:Int} (ha:2000 ≤ a) (h:a ≤ b):QaA a ≤ QaA b := by
 unfold QaA
 rw [Int.tdiv_eq_ediv_of_nonneg (by omega),Int.tdiv_eq_ediv_of_nonneg (by omega)]
 omega
theorem QqK {D a b:Int} (ha:Qlw D a) (hb:Qlw D b):a = b := by
 rcases Int.lt_trichotomy a b with h | h | h
 ·have := Qo5 (a := a + 1) (b := b) (by have := ha.1; omega) (by omega)
  have := ha.2.2.2; have := hb.2.2.1; omega
 ·exact h
 ·have := Qo5 (a := b + 1) (b := a) (by have := hb.1; omega) (by omega)
  have := hb.2.2.2; have := ha.2.2.1; omega
def Quz (D:Int):Nat → Int → Int
 | 0,y => y
 | k + 1,y => if QaA (y + 1) ≤ D then Quz D k (y + 1) else y
theorem Qvw {D:Int} (hD:D < 36525):∀ (k:Nat) (y:Int),2000 ≤ y → y + k = 2099 → QaA y ≤ D → Qlw D (Quz D k y)
 | 0,y,h0,h,h1 => by
  have:y = 2099 := by omega
  subst this
  exact ⟨by show (2000:Int) ≤ 2099; omega,by show (2099:Int) ≤ 2099; omega,h1,by show D < QaA 2100; rw [show QaA 2100 = 36525 by decide]; exact hD⟩
 | k + 1,y,h0,h,h1 => by
  unfold Quz
  split
  ·exact Qvw hD k (y + 1) (by omega) (by omega) (by assumption)
  ·exact ⟨h0,by omega,h1,by omega⟩
def Qd0 (D:Int):Int := Quz D 99 2000
theorem Qki {D:Int} (h0:0 ≤ D) (hD:D < 36525):Qlw D (Qd0 D) := Qvw hD 99 2000 (by omega) (by omega) (by rw [show QaA 2000 = 0 by decide]; exact h0)
def Qa0 (D:Int):Int × Int × Int := match Qbt (Qd0 D) 12 0 (D - QaA (Qd0 D)) with
 | .inl t => t
 | .inr _ => (0,0,0)
theorem Qk2 {D:Int} (h0:0 ≤ D) (hD:D < 36525):Qbt (Qd0 D) 12 0 (D - QaA (Qd0 D)) = .inl (Qa0 D) := by
 have hy := Qki h0 hD
 obtain ⟨t,ht⟩ := Qpk (Qd0 D) (D - QaA (Qd0 D)) (by have := hy.2.2.1; omega) (by have := hy.2.2.2; rw [QhY _ hy.1] at this; omega)
 unfold Qa0
 rw [ht]
theorem Qe1 {D:Int} (h0:0 ≤ D) (hD:D < 36525):2000 ≤ (Qa0 D).1 ∧ (Qa0 D).1 ≤ 2099 ∧ 1 ≤ (Qa0 D).2.1 ∧ (Qa0 D).2.1 ≤ 12 ∧ 1 ≤ (Qa0 D).2.2 ∧ (Qa0 D).2.2 ≤ 31 := by
 have hy := Qki h0 hD
 have h := (Qle (Qd0 D) 12 0 (D - QaA (Qd0 D)) (by have := hy.2.2.1; omega)).1 _ (Qk2 h0 hD)
 have := QbM (Qd0 D) (Qa0 D).2.1
 obtain ⟨h1,h2,h3,h4,h5⟩ := h
 have := hy.1; have := hy.2.1
 refine ⟨by omega,by omega,by omega,by omega,by omega,by omega⟩
def tri (t:Int × Int × Int):CV := .tup [.int .i64 t.1, .int .i64 t.2.1, .int .i64 t.2.2]
theorem Qpt (D Y:Int) (jk:CV) (jm:Int):∀ (k m:Nat) (rest:Int),m + k = 12 → 0 ≤ rest → rest ≤ 1000 → ∀ t,Qbt Y k (m:Int) rest = .inl t →
  Evt fun n => ∀ j,k < j → Qez lb n j D Y jk jm rest (m:Int) = some (tri t)
 | 0,m,rest,h,h0,h1,t,q => by cases q
 | k + 1,m,rest,h,h0,h1,t,q => by
  have hr := QbM Y ((m:Int) + 1)
  have hw:IntKind.wrap .i64 ((m:Int) + 1) = (m:Int) + 1 := Qad (by omega) (by omega)
  have hlen := Qe5 lb Y ((m:Int) + 1) ⟨by omega,by omega⟩
  by_cases c:rest < lenF Y ((m:Int) + 1)
  ·simp only [Qbt,if_pos c] at q
   cases q
   refine hlen.mono fun n hn j hj => ?_
   obtain ⟨j,rfl⟩ : ∃ m,j = m + 1 := ⟨j - 1,by omega⟩
   rw [QgJ,decT (by omega),cond_true,hw,hn]
   simp only [QaM,Qai,QbU,Qdf,Qef,Qed,Qdd,get0,get1,get2,get3,Qdb,cond_true,cond_false,List.length_cons,List.length_nil,Nat.zero_add,Nat.reduceAdd,Nat.reduceBEq,beq_self_eq_true,Qby,QbA]
   rw [decT c,cond_true,Qad (x := rest + 1) (by omega) (by omega)]
   rfl
  ·simp only [Qbt,if_neg c] at q
   refine Evt.imp2 hlen (Qpt D Y jk jm k (m + 1) (rest - lenF Y ((m:Int) + 1)) (by omega) (by omega) (by omega) t (by exact_mod_cast q)) fun n hn hi j hj => ?_
   obtain ⟨j,rfl⟩ : ∃ m,j = m + 1 := ⟨j - 1,by omega⟩
   rw [QgJ,decT (by omega),cond_true,hw,hn]
   simp only [QaM,Qai,QbU,Qdf,Qef,Qed,Qdd,get0,get1,get2,get3,Qdb,cond_true,cond_false,List.length_cons,List.length_nil,Nat.zero_add,Nat.reduceAdd,Nat.reduceBEq,beq_self_eq_true,Qby,QbA]
   rw [decF c,cond_false,Qad (x := rest - lenF Y ((m:Int) + 1)) (by omega) (by omega)]
   exact_mod_cast hi j (by omega)
theorem QqH {D:Int} (h0:0 ≤ D) (hD:D < 36525):∀ (k:Nat) (y:Int),2000 ≤ y → y + k = 2099 → QaA y ≤ D → Evt fun n => ∀ j,k < j → calendar_Date_L1 lb n j D y = some (tri (Qa0 D))
 | k,y,h1,h2,h3 => by
  have hf := Qfl lb (y + 1) ⟨by omega,by omega⟩
  have hw:IntKind.wrap .i64 (y + 1) = y + 1 := Qad (by omega) (by omega)
  by_cases c:QaA (y + 1) ≤ D
  ·match k,h2 with
   | 0,h2 =>
    exfalso
    have:y = 2099 := by omega
    subst this
    rw [show QaA (2099 + 1) = 36525 by decide] at c
    omega
   | k + 1,h2 =>
    refine Evt.imp2 hf (QqH h0 hD k (y + 1) (by omega) (by omega) c) fun n hn hi j hj => ?_
    obtain ⟨j,rfl⟩ : ∃ m,j = m + 1 := ⟨j - 1,by omega⟩
    rw [QgI,hw,hn]
    simp only [QaM,Qai,QbU,Qdf,Qef,Qed,Qdd,get0,get1,get2,get3,Qdb,cond_true,cond_false,List.length_cons,List.length_nil,Nat.zero_add,Nat.reduceAdd,Nat.reduceBEq,beq_self_eq_true,Qby,QbA]
    rw [decT c,cond_true]
    exact hi j (by omega)
  ·have hY:Qlw D y := ⟨h1,by omega,h3,by omega⟩
   have hy:y = Qd0 D := QqK hY (Qki h0 hD)
   have hm := Qpt lb D y (.int .i64 (QaA y)) (QaA y) 12 0 (D - QaA y) rfl (by omega) (by have := hY.2.2.2; rw [QhY y h1] at this; split at this <;> omega) (Qa0 D) (by rw [hy]; exact Qk2 h0 hD)
   refine Evt.imp2 (Evt.imp2 hf (Qfl lb y ⟨by omega,by omega⟩) fun n a b => And.intro a b) (hm.and (Evt.ge 13)) fun n hn hi j hj => ?_
   obtain ⟨j,rfl⟩ : ∃ m,j = m + 1 := ⟨j - 1,by omega⟩
   rw [QgI,hw,hn.1]
   simp only [QaM,Qai,QbU,Qdf,Qef,Qed,Qdd,get0,get1,get2,get3,Qdb,cond_true,cond_false,List.length_cons,List.length_nil,Nat.zero_add,Nat.reduceAdd,Nat.reduceBEq,beq_self_eq_true,Qby,QbA]
   rw [decF c,cond_false,Qng,hn.2]
   simp only [QaM,Qai,QbU,Qdf,Qef,Qed,Qdd,get0,get1,get2,get3,Qdb,cond_true,cond_false,List.length_cons,List.length_nil,Nat.zero_add,Nat.reduceAdd,Nat.reduceBEq,beq_self_eq_true,Qby,QbA]
   rw [Qad (x := D - QaA y) (by omega) (by have:0 ≤ QaA y := (by unfold QaA; have := Int.tdiv_nonneg (a := y - 2000 + 3) (b := 4) (by omega) (by omega); omega); omega)]
   exact hi.1 n (by omega)
theorem QoX (D:Int) (h0:0 ≤ D) (hD:D < 36525):Ret lb QaH [.int .i64 D] (tri (Qa0 D)) := by
 refine .top rfl (.eq (fun n => by rw [Qqo]) ?_)
 have q0:0 ≤ Int.tdiv D 366 := Int.tdiv_nonneg h0 (by decide)
 have q1:Int.tdiv D 366 ≤ 99 := by rw [Int.tdiv_eq_ediv_of_nonneg h0]; omega
 simp only [decF (show ¬ D < 0 by omega),cond_false,decF (show ¬ D ≥ 36525 by omega),Qad (x := Int.tdiv D 366) (by omega) (by omega),Qad (x := 2000 + Int.tdiv D 366) (by omega) (by omega)]
 obtain ⟨k,hk⟩ := Int.eq_ofNat_of_zero_le (show 0 ≤ 2099 - (2000 + Int.tdiv D 366) by omega)
 refine Evt.diag (QqH lb h0 hD k (2000 + Int.tdiv D 366) (by omega) (by omega) ?_)
 unfold QaA
 rw [Int.tdiv_eq_ediv_of_nonneg h0,Int.tdiv_eq_ediv_of_nonneg (by omega)]
 omega
def Qkt (day y m:Int) (r:CV):Prop := ∃ c,Evt fun n => ∀ k,c < k → QfT lb n k day y m = some r
theorem Qx7 {day y m:Int} (h:day < lenF y m) (h0:0 ≤ day):Qkt lb day y m (.tup [.int .i64 y, .int .i64 m, .int .i64 (day + 1)]) := by
 have := QbM y m
 refine ⟨0,(Qeq lb y m).mono fun n hn k hk => ?_⟩
 obtain ⟨k,rfl⟩ : ∃ m,k = m + 1 := ⟨k - 1,by omega⟩
 rw [Qgy,hn]
 simp only [QaM,Qai,QbU,Qdf,Qef,Qed,Qdd,get0,get1,get2,get3,Qdb,cond_true,cond_false,List.length_cons,List.length_nil,Nat.zero_add,Nat.reduceAdd,Nat.reduceBEq,beq_self_eq_true,Qby,QbA]
 rw [decF (by omega),cond_false,QrP,Qad (by omega) (by omega)]
theorem QxS {day y m:Int} {r:CV} (h:lenF y m ≤ day) (hd:day ≤ 100000) (hm:1 ≤ m ∧ m < 12) (hr:Qkt lb (day - lenF y m) y (m + 1) r):Qkt lb day y m r := by
 obtain ⟨c,hc⟩ := hr
 have := QbM y m
 refine ⟨c + 1,Evt.imp2 (Qeq lb y m) hc fun n hn hi k hk => ?_⟩
 obtain ⟨k,rfl⟩ : ∃ m,k = m + 1 := ⟨k - 1,by omega⟩
 rw [Qgy,hn]
 simp only [QaM,Qai,QbU,Qdf,Qef,Qed,Qdd,get0,get1,get2,get3,Qdb,cond_true,cond_false,List.length_cons,List.length_nil,Nat.zero_add,Nat.reduceAdd,Nat.reduceBEq,beq_self_eq_true,Qby,QbA]
 rw [decT (by omega),cond_true,Qad (x := m + 1) (by omega) (by omega),beqF (by omega),cond_false,Qad (by omega) (by omega)]
 exact hi k (by omega)
theorem Qyy {day y:Int} {r:CV} (h:lenF y 12 ≤ day) (hd:day ≤ 100000) (hy:2000 ≤ y ∧ y ≤ 3000) (hr:Qkt lb (day - lenF y 12) (y + 1) 1 r):Qkt lb day y 12 r := by
 obtain ⟨c,hc⟩ := hr
 have := QbM y 12
 refine ⟨c + 1,Evt.imp2 (Qeq lb y 12) hc fun n hn hi k hk => ?_⟩
 obtain ⟨k,rfl⟩ : ∃ m,k = m + 1 := ⟨k - 1,by omega⟩
 rw [Qgy,hn]
 simp only [QaM,Qai,QbU,Qdf,Qef,Qed,Qdd,get0,get1,get2,get3,Qdb,cond_true,cond_false,List.length_cons,List.length_nil,Nat.zero_add,Nat.reduceAdd,Nat.reduceBEq,beq_self_eq_true,Qby,QbA]
 rw [decT (by omega),cond_true,Qad (x := 12 + 1) (by omega) (by omega),beqT (by omega),cond_true,Qad (x := y + 1) (by omega) (by omega),Qad (by omega) (by omega)]
 exact hi k (by omega)
theorem QnA (y:Int) (hy:2000 ≤ y ∧ y ≤ 3000) {r:CV} : ∀ (k:Nat) (m day:Int),m + (k + 1) = 12 → 0 ≤ m → 0 ≤ day → day ≤ 100000 →
  (∀ t,Qbt y (k + 1) m day = .inl t → r = tri t) → (∀ q,Qbt y (k + 1) m day = .inr q → Qkt lb q (y + 1) 1 r) → Qkt lb day y (m + 1) r
 | k,m,day,h,hm,h0,h1,hl,hr => by
  have hlr := QbM y (m + 1)
  by_cases c:day < lenF y (m + 1)
  ·simp only [Qbt,if_pos c] at hl
   rw [hl _ rfl]
   exact Qx7 lb c h0
  ·simp only [Qbt,if_neg c] at hl hr
   match k,h with
   | 0,h =>
    have:m + 1 = 12 := by omega
    rw [this] at c hlr hr ⊢
    exact Qyy lb (by omega) h1 hy (hr _ rfl)
   | k + 1,h => exact QxS lb (by omega) h1 ⟨by omega,by omega⟩ (QnA y hy k (m + 1) (day - lenF y (m + 1)) (by omega) (by omega) (by omega) (by omega) hl hr)
theorem Qpy {D:Int} (h0:0 ≤ D) (hD:D < 36525):∀ (k:Nat) (y:Int),2000 ≤ y → y + k = 2099 → QaA y ≤ D → Qkt lb (D - QaA y) y 1 (tri (Qa0 D))
 | k,y,h1,h2,h3 => by
  have hf0:0 ≤ QaA y := by unfold QaA; have := Int.tdiv_nonneg (a := y - 2000 + 3) (b := 4) (by omega) (by omega); omega
  have hst := QhY y h1
  refine QnA lb y ⟨h1,by omega⟩ 11 0 (D - QaA y) (by omega) (by omega) (by omega) (by omega) (fun t ht => ?_) fun q hq => ?_
  ·by_cases c:QaA (y + 1) ≤ D
   ·rw [Qpg y _ (by rw [hst] at c; omega)] at ht
    cases ht
   ·have hY:Qlw D y := ⟨h1,by omega,h3,by omega⟩
    have hy:y = Qd0 D := QqK hY (Qki h0 hD)
    have := Qk2 h0 hD
    rw [← hy,ht] at this
    cases this
    rfl
  ·by_cases c:QaA (y + 1) ≤ D
   ·rw [Qpg y _ (by rw [hst] at c; omega)] at hq
    cases hq
    rw [show D - QaA y - (if Int.tmod y 4 = 0 then 366 else 365) = D - QaA (y + 1) by rw [hst]; omega]
    match k,h2 with
    | 0,h2 =>
     exfalso
     have:y = 2099 := by omega
     subst this
     rw [show QaA (2099 + 1) = 36525 by decide] at c
     omega
    | k + 1,h2 => exact Qpy h0 hD k (y + 1) (by omega) (by omega) c
   ·obtain ⟨t,ht⟩ := Qpk y (D - QaA y) (by omega) (by rw [hst] at c; omega)
    rw [ht] at hq
    cases hq
theorem QvB (D:Int) (h0:0 ≤ D) (hD:D < 36525):Ret lb Qci [.int .i64 D] (tri (Qa0 D)) := by
 refine .top rfl (.eq (fun n => by rw [QwZ]) ?_)
 simp only [decF (show ¬ D < 0 by omega),cond_false,decF (show ¬ D ≥ 36525 by omega)]
 obtain ⟨c,hc⟩ := Qpy lb h0 hD 99 2000 (by omega) (by omega) (by rw [show QaA 2000 = 0 by decide]; exact h0)
 rw [show QaA 2000 = 0 by decide,Int.sub_zero] at hc
 exact Evt.diag hc
def twoS (z:Int):Bs := [UInt8.ofNat (IntKind.wrap .u8 (IntKind.wrap .i64 (48 + IntKind.wrap .i64 (Int.tdiv z 10)))).toNat,UInt8.ofNat (IntKind.wrap .u8 (IntKind.wrap .i64 (48 + Int.tmod z 10))).toNat]
theorem QCv (x:Int):0 ≤ IntKind.wrap .u8 x ∧ IntKind.wrap .u8 x < 256 := by
 unfold IntKind.wrap
 simp only [IntKind.bits,IntKind.signed]
 simp
 omega
theorem Qs8 (x y:Int):bytesOf [[CV.int .u8 (IntKind.wrap .u8 x)],[CV.int .u8 (IntKind.wrap .u8 y)]] = some [UInt8.ofNat (IntKind.wrap .u8 x).toNat,UInt8.ofNat (IntKind.wrap .u8 y).toNat] := by
 simp only [bytesOf,QCv,and_self,if_true,Option.map_some]
theorem QcY (z:Int):Ret lb Qcm [.int .i64 z] (.str (twoS z)) :=
 .top rfl (.all fun n => by rw [QrA,Qs8,QaM]; rfl)
theorem QeY (z:Int):Ret lb Qeu [.int .i64 z] (.str (twoS z)) :=
 .top rfl (.all fun n => by rw [Qyi,Qs8,QaM]; rfl)
def QbO (D:Int):Bs := ((((twoS (IntKind.wrap .i64 (Int.tdiv (Qa0 D).1 100)) ++ twoS (Int.tmod (Qa0 D).1 100)) ++ [45]) ++ twoS (Qa0 D).2.1) ++ [45]) ++ twoS (Qa0 D).2.2
theorem Qiq (D:Int) (h0:0 ≤ D) (hD:D < 36525):Ret lb Qey [.int .i64 D] (.str (QbO D)) := by
 refine .top rfl (.eq (fun n => by rw [QoV]) ?_)
 refine .call (QoX lb D h0 hD) ?_
 have hr := Qe1 h0 hD
 simp only [tri,QaM,Qai,QbU,Qdf,Qef,Qed,Qdd,get0,get1,get2,get3,Qdb,cond_true,cond_false,List.length_cons,List.length_nil,Nat.zero_add,Nat.reduceAdd,Nat.reduceBEq,beq_self_eq_true,Qby,QbA]
 rw [show ((Qa0 D).1 == 0) = false from beqF (by omega)]
 simp only [cond_false]
 refine .call (QcY lb _) (.call (QcY lb _) ?_)
 simp only [QaM,Qai,QbU,Qdf,Qef,Qed,Qdd,get0,get1,get2,get3,Qdb,cond_true,cond_false,List.length_cons,List.length_nil,Nat.zero_add,Nat.reduceAdd,Nat.reduceBEq,beq_self_eq_true,Qby,QbA]
 refine .chk (by simp [twoS]) (.chk (by simp [twoS]) (.call (QcY lb _) ?_))
 simp only [QaM,Qai,QbU,Qdf,Qef,Qed,Qdd,get0,get1,get2,get3,Qdb,cond_true,cond_false,List.length_cons,List.length_nil,Nat.zero_add,Nat.reduceAdd,Nat.reduceBEq,beq_self_eq_true,Qby,QbA]
 refine .chk (by simp [twoS]) (.chk (by simp [twoS]) (.call (QcY lb _) ?_))
 simp only [QaM,Qai,QbU,Qdf,Qef,Qed,Qdd,get0,get1,get2,get3,Qdb,cond_true,cond_false,List.length_cons,List.length_nil,Nat.zero_add,Nat.reduceAdd,Nat.reduceBEq,beq_self_eq_true,Qby,QbA]
 exact .chk (by simp [twoS]) (.of rfl)
theorem Qnb (D:Int) (h0:0 ≤ D) (hD:D < 36525):Ret lb Qig [.int .i64 D] (.str (QbO D)) := by
 refine .top rfl (.eq (fun n => by rw [QuL]) ?_)
 refine .call (QvB lb D h0 hD) ?_
 have hr := Qe1 h0 hD
 simp only [tri,QaM,Qai,QbU,Qdf,Qef,Qed,Qdd,get0,get1,get2,get3,Qdb,cond_true,cond_false,List.length_cons,List.length_nil,Nat.zero_add,Nat.reduceAdd,Nat.reduceBEq,beq_self_eq_true,Qby,QbA]
 rw [show ((Qa0 D).1 == 0) = false from beqF (by omega)]
 simp only [cond_false]
 refine .call (QeY lb _) (.call (QeY lb _) ?_)
 simp only [QaM,Qai,QbU,Qdf,Qef,Qed,Qdd,get0,get1,get2,get3,Qdb,cond_true,cond_false,List.length_cons,List.length_nil,Nat.zero_add,Nat.reduceAdd,Nat.reduceBEq,beq_self_eq_true,Qby,QbA]
 refine .chk (by simp [twoS]) (.chk (by simp [twoS]) (.call (QeY lb _) ?_))
 simp only [QaM,Qai,QbU,Qdf,Qef,Qed,Qdd,get0,get1,get2,get3,Qdb,cond_true,cond_false,List.length_cons,List.length_nil,Nat.zero_add,Nat.reduceAdd,Nat.reduceBEq,beq_self_eq_true,Qby,QbA]
 refine .chk (by simp [twoS]) (.chk (by simp [twoS]) (.call (QeY lb _) ?_))
 simp only [QaM,Qai,QbU,Qdf,Qef,Qed,Qdd,get0,get1,get2,get3,Qdb,cond_true,cond_false,List.length_cons,List.length_nil,Nat.zero_add,Nat.reduceAdd,Nat.reduceBEq,beq_self_eq_true,Qby,QbA]
 exact .chk (by simp [twoS]) (.of rfl)
end Go.Proofs
