/- Numbers as texts, on plain data. Conditions: none; definitions and laws. -/
import Derived.Test.YtigmcfhmpcajlaaGreatDoorPt
import Derived.Lib.AtoiAll
import Derived.Lib.ItoaNum
set_option linter.unusedSimpArgs false
namespace Go.Proofs
def isDg (c:UInt8):Bool:=decide (48≤c.toNat)&&decide (c.toNat≤57)
def valF (acc:Nat) (d:Bs):Nat:=d.foldl (fun a c=>10*a+(c.toNat-48)) acc
theorem QrY (acc:Nat) (c:UInt8) (d:Bs):valF acc (c::d)=valF (10*acc+(c.toNat-48)) d:=by
 unfold valF
 rw [List.foldl_cons]
theorem Qwz (acc:Nat) (c:UInt8) (d:Bs):valF acc (d++ [c])=10*valF acc d+(c.toNat-48):=by simp [valF]
theorem Qs7:∀(d:Bs) (acc:Nat),10^d.length*acc≤valF acc d
 | [],acc=>by simp [valF]
 |c::d,acc=>by
  rw [QrY,List.length_cons,Nat.pow_succ]
  refine Nat.le_trans ?_ (Qs7 d _)
  rw [Nat.mul_assoc]
  exact Nat.mul_le_mul_left _ (by omega)
def QAc (d:Bs):Prop:=d≠ []∧d.all isDg=true∧(d.head?=some 48→d= [48])
theorem QzZ:∀(u:Nat),QAc (Lib.decDigits u)∧valF 0 (Lib.decDigits u)=u:=by
 intro u
 induction u using Nat.strongRecOn with
 |_ u ih=>
  rw [Lib.decDigits]
  by_cases h:u<10
  ·rw [dif_pos h]
   have h8:(UInt8.ofNat (48+u)).toNat=48+u:=by simp;omega
   refine ⟨⟨by simp,by simp only [List.all_cons,List.all_nil,isDg,h8,Bool.and_true,Bool.and_eq_true,decide_eq_true_eq];omega,fun q=> ?_⟩,by simp only [valF,List.foldl_cons,List.foldl_nil,h8];omega⟩
   simp only [List.head?_cons,Option.some.injEq] at q
   rw [q]
  ·rw [dif_neg h]
   obtain ⟨⟨h1,h2,h3⟩,h4⟩:=ih (u/10) (by omega)
   have h8:(UInt8.ofNat (48+u%10)).toNat=48+u%10:=by simp;omega
   refine ⟨⟨by simp, ?_,fun q=> ?_⟩,by rw [Qwz,h4,h8];omega⟩
   ·simp only [List.all_append,h2,List.all_cons,List.all_nil,isDg,h8,Bool.and_true,Bool.true_and,Bool.and_eq_true,decide_eq_true_eq];omega
   ·exfalso
    obtain ⟨x,xs,hx⟩:=List.exists_cons_of_ne_nil h1
    rw [hx] at q h3 h4
    simp only [List.cons_append,List.head?_cons,Option.some.injEq] at q
    have:=h3 (by simp [q])
    rw [this] at h4
    simp [valF] at h4
    omega
def signed (s:Bs):Bool:=s.head?==some 45
theorem Qfv {z:Int} (h0:-9223372036854775808≤z) (h1:z≤9223372036854775807):(Lib.itoa z).length≤21:=by
 have hd:∀u:Nat,u<10^20→(Lib.decDigits u).length≤20:=by
  intro u hu
  refine Decidable.byContradiction fun hn=> ?_
  obtain ⟨⟨a1,a2,a3⟩,a4⟩:=QzZ u
  obtain ⟨x,xs,hx⟩:=List.exists_cons_of_ne_nil a1
  rw [hx] at a2 a3 a4 hn
  simp only [List.length_cons] at hn
  simp only [List.all_cons,Bool.and_eq_true,isDg,decide_eq_true_eq] at a2
  have hx48:x≠48:=by
   intro q
   have:=a3 (by simp [q])
   simp at this
   rw [this.2] at hn;simp at hn
  have:x.toNat≠48:=fun q=>hx48 (Qg0 q)
  rw [QrY] at a4
  have h3:=Qs7 xs (10*0+(x.toNat-48))
  have h4:10^20≤10^xs.length:=Nat.pow_le_pow_right (by decide) (by omega)
  have h5:10^xs.length*1≤10^xs.length*(10*0+(x.toNat-48)):=Nat.mul_le_mul_left _ (by omega)
  omega
 unfold Lib.itoa
 split
 ·simp only [List.length_cons]
  have:=hd z.natAbs (by omega)
  omega
 ·have:=hd z.toNat (by omega)
  omega
end Go.Proofs
