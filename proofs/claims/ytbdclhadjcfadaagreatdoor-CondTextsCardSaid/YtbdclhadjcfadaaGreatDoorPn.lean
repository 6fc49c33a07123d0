/- Numbers as texts, on plain data. Conditions: none; definitions and laws. -/
import Derived.Test.YtbdclhadjcfadaaGreatDoorPt
import Derived.Lib.AtoiAll
import Derived.Lib.ItoaNum
set_option linter.unusedSimpArgs false
namespace Go.Proofs
def isDg (c:UInt8):Bool := decide (48 ≤ c.toNat) && decide (c.toNat ≤ 57)
def valF (acc:Nat) (d:Bs):Nat := d.foldl (fun a c => 10 * a + (c.toNat - 48)) acc
theorem Qfh (acc:Nat) (c:UInt8) (d:Bs):valF acc (c :: d) = valF (10 * acc + (c.toNat - 48)) d := by
 unfold valF
 rw [List.foldl_cons]
theorem Qk5 (acc:Nat) (c:UInt8) (d:Bs):valF acc (d ++ [c]) = 10 * valF acc d + (c.toNat - 48) := by simp [valF]
theorem Qsm:∀ (d:Bs) (acc:Nat),acc ≤ valF acc d
 | [],acc => Nat.le_refl _
 | c :: d,acc => by
  rw [Qfh]
  exact Nat.le_trans (by omega) (Qsm d _)
theorem QpH:∀ (d:Bs) (acc:Nat),10 ^ d.length * acc ≤ valF acc d
 | [],acc => by simp [valF]
 | c :: d,acc => by
  rw [Qfh,List.length_cons,Nat.pow_succ]
  refine Nat.le_trans ?_ (QpH d _)
  rw [Nat.mul_assoc]
  exact Nat.mul_le_mul_left _ (by omega)
theorem Qxt:∀ (d:Bs) (acc:Nat),d.all isDg = true → valF acc d < 10 ^ d.length * (acc + 1)
 | [],acc,_ => by simp [valF]
 | c :: d,acc,h => by
  simp only [List.all_cons,Bool.and_eq_true,isDg,decide_eq_true_eq] at h
  rw [Qfh,List.length_cons,Nat.pow_succ]
  refine Nat.lt_of_lt_of_le (Qxt d _ (by simpa [isDg] using h.2)) ?_
  rw [Nat.mul_assoc]
  exact Nat.mul_le_mul_left _ (by omega)
theorem QsT:∀ (d:Bs) (acc:Nat),d.all isDg = true → acc < 18446744073709551616 →
  Lib.parseUint10 acc d = if valF acc d < 18446744073709551616 then .ok (valF acc d) else .range
 | [],acc,_,h => by simp [Lib.parseUint10,valF,h]
 | c :: d,acc,h,ha => by
  simp only [List.all_cons,Bool.and_eq_true,isDg,decide_eq_true_eq] at h
  have hle := Qsm d (10 * acc + (c.toNat - 48))
  rw [Qfh]
  unfold Lib.parseUint10
  rw [if_pos h.1]
  split
  ·rw [if_neg (by omega)]
  ·split
   ·rw [if_neg (by omega)]
   ·rw [Nat.mul_comm acc 10]
    exact QsT d _ (by simpa [isDg] using h.2) (by omega)
def QqX (d:Bs):Prop := d ≠ [] ∧ d.all isDg = true ∧ (d.head? = some 48 → d = [48])
theorem Ql3:∀ (u:Nat),QqX (Lib.decDigits u) ∧ valF 0 (Lib.decDigits u) = u := by
 intro u
 induction u using Nat.strongRecOn with
 | _ u ih =>
  rw [Lib.decDigits]
  by_cases h:u < 10
  ·rw [dif_pos h]
   have h8:(UInt8.ofNat (48 + u)).toNat = 48 + u := by simp; omega
   refine ⟨⟨by simp,by simp only [List.all_cons,List.all_nil,isDg,h8,Bool.and_true,Bool.and_eq_true,decide_eq_true_eq]; omega,fun q => ?_⟩,by simp only [valF,List.foldl_cons,List.foldl_nil,h8]; omega⟩
   simp only [List.head?_cons,Option.some.injEq] at q
   rw [q]
  ·rw [dif_neg h]
   obtain ⟨⟨h1,h2,h3⟩,h4⟩ := ih (u / 10) (by omega)
   have h8:(UInt8.ofNat (48 + u % 10)).toNat = 48 + u % 10 := by simp; omega
   refine ⟨⟨by simp, ?_,fun q => ?_⟩,by rw [Qk5,h4,h8]; omega⟩
   ·simp only [List.all_append,h2,List.all_cons,List.all_nil,isDg,h8,Bool.and_true,Bool.true_and,Bool.and_eq_true,decide_eq_true_eq]; omega
   ·exfalso
    obtain ⟨x,xs,hx⟩ := List.exists_cons_of_ne_nil h1
    rw [hx] at q h3 h4
    simp only [List.cons_append,List.head?_cons,Option.some.injEq] at q
    have := h3 (by simp [q])
    rw [this] at h4
    simp [valF] at h4
    omega
theorem QvM:∀ (n:Nat) (d:Bs),d.length = n → QqX d → d = Lib.decDigits (valF 0 d)
 | 0,d,hn,h => (h.1 (List.eq_nil_of_length_eq_zero hn)).elim
 | n + 1,d,hn,h => by
  obtain ⟨h1,h2,h3⟩ := h
  have hd := (List.dropLast_concat_getLast h1).symm
  generalize d.getLast h1 = c at hd
  generalize d.dropLast = d' at hd
  subst hd
  simp only [List.all_append,List.all_cons,List.all_nil,Bool.and_true,Bool.and_eq_true] at h2
  obtain ⟨h2,hc⟩ := h2
  simp only [isDg,Bool.and_eq_true,decide_eq_true_eq] at hc
  rw [Qk5]
  by_cases hd:d' = []
  ·subst hd
   rw [Lib.decDigits,dif_pos (by simp [valF]; omega)]
   simp only [valF,List.foldl_nil,List.nil_append,List.cons.injEq,and_true]
   apply Qds
   simp; omega
  ·obtain ⟨x,xs,rfl⟩ := List.exists_cons_of_ne_nil hd
   have hx:x ≠ 48 := by
    intro q
    have := h3 (by simp [q])
    simp at this
   have hc' : QqX (x :: xs) := ⟨by simp,h2,fun q => by simp at q; exact (hx q).elim⟩
   have := QvM n (x :: xs) (by simp at hn ⊢; omega) hc'
   have hpos:1 ≤ valF 0 (x :: xs) := by
    rw [Qfh]
    refine Nat.le_trans ?_ (Qsm xs _)
    simp only [List.all_cons,Bool.and_eq_true,isDg,decide_eq_true_eq] at h2
    have:x.toNat ≠ 48 := fun q => hx (Qds q)
    omega
   have hval:10 * valF 0 (x :: xs) + (c.toNat - 48) ≥ 10 := by omega
   rw [Lib.decDigits,dif_neg (by omega),show (10 * valF 0 (x :: xs) + (c.toNat - 48)) / 10 = valF 0 (x :: xs) by omega, ← this]
   congr 1
   simp only [List.cons.injEq,and_true]
   apply Qds
   simp; omega
def QaU (s:Bs):Bs := match s with
 | c :: r => if c = 45 then r else c :: r
 | [] => []
def signed (s:Bs):Bool := s.head? == some 45
def numB (s:Bs):Int × Int :=
 if QaU s = [] ∨ (QaU s).all isDg = false ∨ ((QaU s).head? = some 48 ∧ s ≠ [48]) then (0,3)
 else if signed s then (if valF 0 (QaU s) ≤ 9223372036854775808 then (-(valF 0 (QaU s):Int),0) else (0,4))
 else (if valF 0 (QaU s) < 9223372036854775808 then ((valF 0 (QaU s):Int),0) else (0,4))
theorem QAW (u:Nat):(Lib.decDigits u).head? ≠ some 45 := by
 obtain ⟨⟨h1,h2,_⟩,_⟩ := Ql3 u
 obtain ⟨x,xs,hx⟩ := List.exists_cons_of_ne_nil h1
 rw [hx] at h2 ⊢
 simp only [List.all_cons,Bool.and_eq_true,isDg,decide_eq_true_eq] at h2
 simp only [List.head?_cons,ne_eq,Option.some.injEq]
 intro q
 subst q
 exact absurd h2.1.1 (by decide)
theorem QxQ (u:Nat):QaU (Lib.decDigits u) = Lib.decDigits u ∧ signed (Lib.decDigits u) = false := by
 have h1 := (Ql3 u).1.1
 have h2 := QAW u
 obtain ⟨x,xs,hx⟩ := List.exists_cons_of_ne_nil h1
 rw [hx] at h2 ⊢
 simp only [List.head?_cons,ne_eq,Option.some.injEq] at h2
 exact ⟨by simp [QaU,h2],by simp [signed,h2]⟩
theorem QgG (z:Int) (h0 : -9223372036854775808 ≤ z) (h1:z ≤ 9223372036854775807):numB (Lib.itoa z) = (z,0) := by
 unfold Lib.itoa
 split
 ·obtain ⟨⟨a1,a2,a3⟩,a4⟩ := Ql3 z.natAbs
  have e1:QaU (45 :: Lib.decDigits z.natAbs) = Lib.decDigits z.natAbs := by simp [QaU]
  have e2:signed (45 :: Lib.decDigits z.natAbs) = true := rfl
  unfold numB
  rw [e1,e2,a4]
  have a5:¬ (Lib.decDigits z.natAbs).head? = some 48 := by
   intro q
   rw [a3 q] at a4
   have:valF 0 [48] = 0 := by decide
   omega
  rw [if_neg (by simp [a1,a2,a5]),if_pos rfl,if_pos (by omega)]
  congr 1
  omega
 ·obtain ⟨⟨a1,a2,a3⟩,a4⟩ := Ql3 z.toNat
  obtain ⟨e1,e2⟩ := QxQ z.toNat
  unfold numB
  rw [e1,e2,a4]
  rw [if_neg (by
   rintro (q | q | ⟨q1,q2⟩)
   ·exact a1 q
   ·rw [a2] at q; cases q
   ·exact q2 (a3 q1)),if_neg (by simp),if_pos (by omega)]
  congr 1
  omega
theorem Qdp {z:Int} (h0 : -9223372036854775808 ≤ z) (h1:z ≤ 9223372036854775807):(Lib.itoa z).length ≤ 21 := by
 have hd:∀ u:Nat,u < 10 ^ 20 → (Lib.decDigits u).length ≤ 20 := by
  intro u hu
  refine Decidable.byContradiction fun hn => ?_
  obtain ⟨⟨a1,a2,a3⟩,a4⟩ := Ql3 u
  obtain ⟨x,xs,hx⟩ := List.exists_cons_of_ne_nil a1
  rw [hx] at a2 a3 a4 hn
  simp only [List.length_cons] at hn
  simp only [List.all_cons,Bool.and_eq_true,isDg,decide_eq_true_eq] at a2
  have hx48:x ≠ 48 := by
   intro q
   have := a3 (by simp [q])
   simp at this
   rw [this.2] at hn; simp at hn
  have:x.toNat ≠ 48 := fun q => hx48 (Qds q)
  rw [Qfh] at a4
  have h3 := QpH xs (10 * 0 + (x.toNat - 48))
  have h4:10 ^ 20 ≤ 10 ^ xs.length := Nat.pow_le_pow_right (by decide) (by omega)
  have h5:10 ^ xs.length * 1 ≤ 10 ^ xs.length * (10 * 0 + (x.toNat - 48)) := Nat.mul_le_mul_left _ (by omega)
  omega
 unfold Lib.itoa
 split
 ·simp only [List.length_cons]
  have := hd z.natAbs (by omega)
  omega
 ·have := hd z.toNat (by omega)
  omega
end Go.Proofs
