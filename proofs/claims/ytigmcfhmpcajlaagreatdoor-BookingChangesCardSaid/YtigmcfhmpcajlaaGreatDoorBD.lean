/- Chapter 35: the groups of marriage numbers cover all places in order; right numbers stand in one group alone. Conditions: as each says. -/
import Derived.Test.YtigmcfhmpcajlaaGreatDoorBA
set_option linter.unusedSimpArgs false
set_option linter.unusedVariables false
namespace Go.Proofs
open Go.Am
def upTo (k:Nat):List Int:=(List.range k).map fun (i:Nat)=>(i:Int)
theorem Qiu (k:Nat):upTo (k+1)=upTo k++ [(k:Int)]:=by simp [upTo,List.range_succ]
theorem QeH {k:Nat} {i:Int}:i∈upTo k↔0≤i∧i<(k:Int):=by
 unfold upTo
 rw [List.mem_map]
 constructor
 ·rintro ⟨a,ha,rfl⟩
  have:=List.mem_range.1 ha
  omega
 ·rintro ⟨h0,h1⟩
  exact ⟨i.toNat,List.mem_range.2 (by omega),by omega⟩
theorem Qln:∀k,(upTo k).Pairwise (· < ·)
 |0=>by simp [upTo]
 |k+1=>by
  rw [Qiu]
  refine List.pairwise_append.2 ⟨Qln k,by simp,fun a ha b hb=> ?_⟩
  simp only [List.mem_singleton] at hb
  have:=(QeH.1 ha).2
  omega
theorem Qd9 (l:List Int):∀k,k≤l.length→(Qa6 (l.take k)).2.2.flatten=upTo k
 |0,_=>rfl
 |k+1,h=>by
  obtain ⟨x,hx⟩:∃x,l[k]?=some x:=⟨_,List.getElem?_eq_getElem (by omega)⟩
  have ih:=Qd9 l k (by omega)
  have ok:=Qc7 l k (by omega)
  rw [QcG hx]
  simp only [stepG]
  rw [Qd7 l k (by omega),Qiu,←ih]
  split
  ·rename_i hc
   rcases k with _|k
   ·exfalso;have:=hc.2;have h0:(Qa6 (l.take 0)).2.1=0:=rfl;omega
   ·have hne:=ok.some (by omega)
    generalize (Qa6 (l.take (k+1))).2.2=gs at hne
    rw [←List.dropLast_concat_getLast hne,QdE]
    simp
  ·simp
theorem Qe7 (l:List Int):∀k,k≤l.length→∀g∈(Qa6 (l.take k)).2.2,∀i∈g,nthI l i=nthI l (g.headD 0)
 |0,_,g,hg=>by simp [Qa6] at hg
 |k+1,h,g,hg=>by
  obtain ⟨x,hx⟩:∃x,l[k]?=some x:=⟨_,List.getElem?_eq_getElem (by omega)⟩
  have ih:=Qe7 l k (by omega)
  have ok:=Qc7 l k (by omega)
  have fl:=Qd9 l k (by omega)
  rw [QcG hx] at hg
  simp only [stepG] at hg
  rw [Qd7 l k (by omega)] at hg
  split at hg
  ·rename_i hc
   rcases k with _|k
   ·exfalso;have:=hc.2;have h0:(Qa6 (l.take 0)).2.1=0:=rfl;omega
   ·have hne:=ok.some (by omega)
    have hpr:(Qa6 (l.take (k+1))).2.1=nthI l (k:Int):=by
     obtain ⟨y,hy⟩:∃y,l[k]?=some y:=⟨_,List.getElem?_eq_getElem (by omega)⟩
     rw [QlU hy];simp [nthI,hy]
    rw [hpr] at hc
    have hk1:nthI l ((k+1:Nat):Int)=x:=by simp [nthI,hx]
    generalize (Qa6 (l.take (k+1))).2.2=gs at hne ih ok fl hg
    obtain ⟨A,g0,rfl⟩:∃A g0,gs=A++ [g0]:=⟨_,_,(List.dropLast_concat_getLast hne).symm⟩
    rw [QdE] at hg
    rcases List.mem_append.1 hg with hg|hg
    ·exact ih g (by simp [hg])
    ·simp only [List.mem_singleton] at hg
     subst hg
     obtain ⟨a,t,rfl,_⟩:=ok.heads g0 (by simp)
     have hk:(k:Int)∈a::t:=by
      have hlast:(A++ [a::t]).flatten.getLast?=(upTo (k+1)).getLast?:=by rw [fl]
      rw [Qiu] at hlast
      simp only [List.flatten_append,List.flatten_cons,List.flatten_nil,List.append_nil,List.getLast?_append] at hlast
      have h2:(a::t).getLast?=some ((a::t).getLast (by simp)):=List.getLast?_eq_some_getLast (by simp)
      rw [h2] at hlast
      simp at hlast
      rw [←hlast]
      exact List.getLast_mem (by simp)
     intro i hi
     rcases List.mem_append.1 hi with hi|hi
     ·exact ih (a::t) (by simp) i hi
     ·simp only [List.mem_singleton] at hi
      subst hi
      rw [hk1,←hc.2]
      exact ih (a::t) (by simp) _ hk
  ·rcases List.mem_append.1 hg with hg|hg
   ·exact ih g hg
   ·simp only [List.mem_singleton] at hg;subst hg
    intro i hi
    simp only [List.mem_singleton] at hi;subst hi
    rfl
theorem QyM {g:List Int} (h:g.Pairwise (· < ·)) {i:Int} (hi:i∈g):i≤g.getLastD 0:=by
 obtain ⟨A,z,rfl⟩:∃A z,g=A++ [z]:=⟨_,_,(List.dropLast_concat_getLast (List.ne_nil_of_mem hi)).symm⟩
 have hz:(A++ [z]).getLastD 0=z:=by simp [List.getLastD_eq_getLast?]
 rw [hz]
 rcases List.mem_append.1 hi with hi|hi
 ·exact Int.le_of_lt ((List.pairwise_append.1 h).2.2 i hi z (by simp))
 ·simp only [List.mem_singleton] at hi;omega
theorem Qta {g:List Int} (h:g≠ []):g.getLastD 0∈g:=by
 rw [List.getLastD_eq_getLast?,List.getLast?_eq_some_getLast h]
 exact List.getLast_mem h
theorem QrX {l:List Int} (hm:marE l=0) {g:List Int} (hg:g∈QaO l) {i j:Int} (hi:i∈g) (j0:0≤j) (j1:j<(l.length:Int)) (hp:nthI l i>0) (he:nthI l j=nthI l i):j∈g:=by
 have fl:=Qd9 l l.length (Nat.le_refl _)
 have sm:=Qe7 l l.length (Nat.le_refl _)
 have mem:=Qdv l l.length (Nat.le_refl _)
 rw [List.take_length] at fl sm mem
 have lt:=Qln l.length
 rw [←fl] at lt
 have bad:∀g∈QaO l,badG l g=false:=fun g hg=>by
  unfold marE at hm
  split at hm
  ·simp at hm
  ·split at hm
   ·simp at hm
   ·rename_i h;exact Bool.eq_false_iff.2 (List.any_eq_false.1 (Bool.eq_false_iff.2 h) g hg)
 have up:∀g∈QaO l,∀i∈g,∀j,0≤j→j<(l.length:Int)→nthI l i>0→nthI l j=nthI l i→i<j→j∈g:=by
  intro g hg i hi j j0 j1 hp he hij
  obtain ⟨A,B,hAB⟩:=List.append_of_mem hg
  unfold QaO at hAB
  rw [hAB] at lt fl
  simp only [List.flatten_append,List.flatten_cons] at lt fl
  obtain ⟨p1,p2,p3⟩:=List.pairwise_append.1 lt
  obtain ⟨p4,p5,p6⟩:=List.pairwise_append.1 p2
  have hj:j∈upTo l.length:=QeH.2 ⟨j0,j1⟩
  rw [←fl] at hj
  rcases List.mem_append.1 hj with hj|hj
  ·have:=p3 j hj i (by simp [hi]);omega
  rcases List.mem_append.1 hj with hj|hj
  ·exact hj
  exfalso
  have hz:=Qta (List.ne_nil_of_mem hi)
  have hzj:=p6 _ hz j hj
  have hzr:=mem g hg _ hz
  have hb:=bad g hg
  unfold badG at hb
  rw [←sm g hg i hi,show decide (nthI l i>0)=true from decide_eq_true hp] at hb
  simp only [Bool.true_and,Bool.or_eq_false_iff] at hb
  have hc:=hb.2
  rw [←he] at hc
  have:nthI l j∈l.drop (g.getLastD 0+1).toNat:=by
   rw [List.mem_iff_getElem?]
   refine ⟨j.toNat-(g.getLastD 0+1).toNat, ?_⟩
   rw [List.getElem?_drop,show (g.getLastD 0+1).toNat+(j.toNat-(g.getLastD 0+1).toNat)=j.toNat by omega]
   simp [nthI,List.getElem?_eq_getElem (show j.toNat<l.length by omega)]
  rw [List.contains_iff_mem.2 this] at hc
  cases hc
 rcases Int.lt_trichotomy i j with h|h|h
 ·exact up g hg i hi j j0 j1 hp he h
 ·exact h▸hi
 ·have hir:=mem g hg i hi
  obtain ⟨A,B,hAB⟩:=List.append_of_mem hg
  have hAB2:=hAB
  unfold QaO at hAB
  rw [hAB] at lt fl
  simp only [List.flatten_append,List.flatten_cons] at lt fl
  obtain ⟨p1,p2,p3⟩:=List.pairwise_append.1 lt
  obtain ⟨p4,p5,p6⟩:=List.pairwise_append.1 p2
  have hj:j∈upTo l.length:=QeH.2 ⟨j0,j1⟩
  rw [←fl] at hj
  rcases List.mem_append.1 hj with hj|hj
  ·obtain ⟨g2,hg2,hj2⟩:=List.mem_flatten.1 hj
   have:=up g2 (by rw [hAB2];simp [hg2]) j hj2 i hir.1 hir.2 (by omega) he.symm h
   have:=p3 i (List.mem_flatten.2 ⟨g2,hg2,this⟩) i (by simp [hi])
   omega
  rcases List.mem_append.1 hj with hj|hj
  ·exact hj
  ·have:=p6 i hi j hj;omega
theorem Qib {l:List Int} {g:List Int} (hg:g∈QaO l):g.Pairwise (· < ·):=by
 have fl:=Qd9 l l.length (Nat.le_refl _)
 rw [List.take_length] at fl
 have lt:=Qln l.length
 rw [←fl] at lt
 obtain ⟨A,B,hAB⟩:=List.append_of_mem hg
 unfold QaO at hAB
 rw [hAB] at lt
 simp only [List.flatten_append,List.flatten_cons] at lt
 exact (List.pairwise_append.1 (List.pairwise_append.1 lt).2.1).1
theorem QlF {l:List Int} {x:Int} (h0:0≤x) (h1:x<(l.length:Int)):∃g,(QaO l).find? (·.contains x)=some g:=by
 have fl:=Qd9 l l.length (Nat.le_refl _)
 rw [List.take_length] at fl
 have hj:x∈upTo l.length:=QeH.2 ⟨h0,h1⟩
 rw [←fl] at hj
 obtain ⟨g,hg,hx⟩:=List.mem_flatten.1 hj
 cases hf:(QaO l).find? (·.contains x) with
 |some g=>exact ⟨g,rfl⟩
 |none=>
  have:=List.find?_eq_none.1 hf g hg
  simp at this
  exact absurd hx this
end Go.Proofs
set_option linter.unusedSimpArgs false
set_option linter.unusedVariables false
namespace Go.Proofs
open Go.Am
def Qg6 (l:List Int) (i:Int):Bool:=(decide (i>0)&&nthI l (i-1)==nthI l i)||(decide (i+1<(l.length:Int))&&nthI l (i+1)==nthI l i)
def Qha (l:List Int) (i:Int):Nat→Nat→Bool
 |_,0=>false
 |k,d+1=>((nthI l (k:Int)==nthI l i)&&(nthI l ((k:Int)-1) !=nthI l i))||Qha l i (k+1) d
def badR (l:List Int):Nat→Nat→Bool
 |_,0=>false
 |i,d+1=>(decide (nthI l (i:Int)>0)&&(!Qg6 l (i:Int)||Qha l (i:Int) (i+2) (l.length-(i+2))))||badR l (i+1) d
def refE (l:List Int):Int:=if l.any (fun x=>decide (x<0)) then 2 else if badR l 0 l.length then 18 else 0
theorem QqR (l:List Int) (i:Int):∀d k:Nat,Qha l i k d=true↔∃j:Nat,k≤j∧j<k+d∧nthI l (j:Int)=nthI l i∧nthI l ((j:Int)-1)≠nthI l i
 |0,k=>by
  simp only [Qha]
  constructor
  ·intro h;cases h
  ·rintro ⟨j,h1,h2,_⟩;omega
 |d+1,k=>by
  simp only [Qha,Bool.or_eq_true,Bool.and_eq_true,QqR l i d (k+1),beq_iff_eq,bne_iff_ne]
  constructor
  ·rintro (⟨h1,h2⟩|⟨j,h1,h2,h3,h4⟩)
   ·exact ⟨k,by omega,by omega,h1,h2⟩
   ·exact ⟨j,by omega,by omega,h3,h4⟩
  ·rintro ⟨j,h1,h2,h3,h4⟩
   by_cases hj:j=k
   ·subst hj;exact .inl ⟨h3,h4⟩
   ·exact .inr ⟨j,by omega,by omega,h3,h4⟩
theorem Qo4 (l:List Int):∀d i:Nat,badR l i d=true↔∃j:Nat,i≤j∧j<i+d∧nthI l (j:Int)>0∧(Qg6 l (j:Int)=false∨∃k:Nat,j+2≤k∧k<l.length∧nthI l (k:Int)=nthI l (j:Int)∧nthI l ((k:Int)-1)≠nthI l (j:Int))
 |0,i=>by
  simp only [badR]
  constructor
  ·intro h;cases h
  ·rintro ⟨j,h1,h2,_⟩;omega
 |d+1,i=>by
  simp only [badR,Bool.or_eq_true,Bool.and_eq_true,Qo4 l d (i+1),QqR,decide_eq_true_eq,Bool.not_eq_true']
  constructor
  ·rintro (⟨h1,h2⟩|⟨j,h1,h2,h3⟩)
   ·refine ⟨i,by omega,by omega,h1, ?_⟩
    rcases h2 with h2|⟨k,a,b,c⟩
    ·exact .inl h2
    ·exact .inr ⟨k,a,by omega,c⟩
   ·exact ⟨j,by omega,by omega,h3⟩
  ·rintro ⟨j,h1,h2,h3,h4⟩
   by_cases hj:j=i
   ·subst hj
    refine .inl ⟨h3, ?_⟩
    rcases h4 with h4|⟨k,a,b,c⟩
    ·exact .inl h4
    ·exact .inr ⟨k,a,by omega,c⟩
   ·exact .inr ⟨j,by omega,by omega,h3,h4⟩
theorem grow (l:List Int) (k:Nat) (h:k<l.length):∀g∈(Qa6 (l.take k)).2.2,∃g'∈(Qa6 (l.take (k+1))).2.2,∀x∈g,x∈g':=by
 obtain ⟨x,hx⟩:∃x,l[k]?=some x:=⟨_,List.getElem?_eq_getElem h⟩
 intro g hg
 rw [QcG hx]
 simp only [stepG]
 split
 ·have hne:(Qa6 (l.take k)).2.2≠ []:=List.ne_nil_of_mem hg
  generalize (Qa6 (l.take k)).2.2=gs at hg hne
  obtain ⟨A,g0,rfl⟩:∃A g0,gs=A++ [g0]:=⟨_,_,(List.dropLast_concat_getLast hne).symm⟩
  rw [QdE]
  rcases List.mem_append.1 hg with hg|hg
  ·exact ⟨g,by simp [hg],fun _ h=>h⟩
  ·simp only [List.mem_singleton] at hg;subst hg
   exact ⟨_,List.mem_append_right _ (List.mem_singleton.2 rfl),fun y hy=>List.mem_append_left _ hy⟩
 ·exact ⟨g,by simp [hg],fun _ h=>h⟩
theorem QwX (l:List Int) (k:Nat):∀d,k+d≤l.length→∀g∈(Qa6 (l.take k)).2.2,∃g'∈(Qa6 (l.take (k+d))).2.2,∀x∈g,x∈g'
 |0,h,g,hg=>⟨g,hg,fun _ h=>h⟩
 |d+1,h,g,hg=>by
  obtain ⟨g1,h1,e1⟩:=QwX l k d (by omega) g hg
  obtain ⟨g2,h2,e2⟩:=grow l (k+d) (by omega) g1 h1
  exact ⟨g2,h2,fun x hx=>e2 x (e1 x hx)⟩
theorem adj {l:List Int} {i:Nat} (h:i+1<l.length) (hp:nthI l (i:Int)>0) (he:nthI l ((i:Int)+1)=nthI l (i:Int)):∃g∈QaO l,(i:Int)∈g∧(i:Int)+1∈g:=by
 have key:∃g∈(Qa6 (l.take (i+2))).2.2,(i:Int)∈g∧(i:Int)+1∈g:=by
  obtain ⟨x,hx⟩:∃x,l[i+1]?=some x:=⟨_,List.getElem?_eq_getElem h⟩
  obtain ⟨y,hy⟩:∃y,l[i]?=some y:=⟨_,List.getElem?_eq_getElem (by omega)⟩
  have ok:=Qc7 l (i+1) (by omega)
  have fl:=Qd9 l (i+1) (by omega)
  have e1:nthI l ((i:Int)+1)=x:=by
   have:((i:Int)+1).toNat=i+1:=by omega
   simp [nthI,this,hx]
  have e2:nthI l (i:Int)=y:=by simp [nthI,hy]
  rw [QcG hx]
  simp only [stepG]
  rw [Qd7 l (i+1) (by omega),QlU hy,if_pos ⟨by rw [←e1,he];exact hp,by rw [←e2,←e1,he]⟩]
  have hne:=ok.some (by omega)
  generalize (Qa6 (l.take (i+1))).2.2=gs at hne ok fl
  obtain ⟨A,g0,rfl⟩:∃A g0,gs=A++ [g0]:=⟨_,_,(List.dropLast_concat_getLast hne).symm⟩
  rw [QdE]
  obtain ⟨a,t,rfl,_⟩:=ok.heads g0 (by simp)
  have hk:(i:Int)∈a::t:=by
   have hlast:(A++ [a::t]).flatten.getLast?=(upTo (i+1)).getLast?:=by rw [fl]
   rw [Qiu] at hlast
   simp only [List.flatten_append,List.flatten_cons,List.flatten_nil,List.append_nil,List.getLast?_append] at hlast
   have h2:(a::t).getLast?=some ((a::t).getLast (by simp)):=List.getLast?_eq_some_getLast (by simp)
   rw [h2] at hlast
   simp at hlast
   rw [←hlast]
   exact List.getLast_mem (by simp)
  exact ⟨_,List.mem_append_right _ (List.mem_singleton.2 rfl),List.mem_append_left _ hk,List.mem_append_right _ (List.mem_singleton.2 (by omega))⟩
 obtain ⟨g,hg,a,b⟩:=key
 obtain ⟨g',hg',e⟩:=QwX l (i+2) (l.length-(i+2)) (by omega) g hg
 rw [show i+2+(l.length-(i+2))=l.length by omega,List.take_length] at hg'
 exact ⟨g',hg',e _ a,e _ b⟩
structure Cut (l g:List Int) (A B:List (List Int)):Prop where
 eq:QaO l=A++g::B
 before:∀x∈A.flatten,∀y∈g,x<y
 after:∀x∈g,∀y∈B.flatten,x<y
 all:∀j:Int,0≤j→j<(l.length:Int)→j∈A.flatten∨j∈g∨j∈B.flatten
theorem Qxi {l g:List Int} (hg:g∈QaO l):∃A B,Cut l g A B:=by
 have fl:=Qd9 l l.length (Nat.le_refl _)
 rw [List.take_length] at fl
 have lt:=Qln l.length
 rw [←fl] at lt
 obtain ⟨A,B,hAB⟩:=List.append_of_mem hg
 have hAB2:=hAB
 unfold QaO at hAB
 rw [hAB] at lt fl
 simp only [List.flatten_append,List.flatten_cons] at lt fl
 obtain ⟨p1,p2,p3⟩:=List.pairwise_append.1 lt
 obtain ⟨p4,p5,p6⟩:=List.pairwise_append.1 p2
 refine ⟨A,B,hAB2,fun x hx y hy=>p3 x hx y (by simp [hy]),p6,fun j j0 j1=> ?_⟩
 have hj:j∈upTo l.length:=QeH.2 ⟨j0,j1⟩
 rw [←fl] at hj
 simpa [List.mem_append] using hj
theorem Ql2 {l g g':List Int} (hg:g∈QaO l) (hg':g'∈QaO l) {x:Int} (h:x∈g) (h':x∈g'):g'=g:=by
 obtain ⟨A,B,c⟩:=Qxi hg
 rw [c.eq] at hg'
 rcases List.mem_append.1 hg' with q|q
 ·have:=c.before x (List.mem_flatten.2 ⟨g',q,h'⟩) x h;omega
 ·rcases List.mem_cons.1 q with q|q
  ·exact q
  ·have:=c.after x h x (List.mem_flatten.2 ⟨g',q,h'⟩);omega
theorem Qm9 {l g:List Int} (hg:g∈QaO l) {a b j:Int} (ha:a∈g) (hb:b∈g) (h1:a≤j) (h2:j≤b):j∈g:=by
 obtain ⟨A,B,c⟩:=Qxi hg
 have mem:=Qdv l l.length (Nat.le_refl _)
 rw [List.take_length] at mem
 have m1:=mem g hg a ha
 have m2:=mem g hg b hb
 rcases c.all j (by omega) (by omega) with q|q|q
 ·have:=c.before j q a ha;omega
 ·exact q
 ·have:=c.after b hb j q;omega
theorem Qx4 {l:List Int} {x:Int} (h0:0≤x) (h1:x<(l.length:Int)):∃g∈QaO l,x∈g:=by
 obtain ⟨g,hg⟩:=QlF (l:=l) h0 h1
 exact ⟨g,List.mem_of_find?_eq_some hg,by simpa using List.find?_some hg⟩
theorem QzN {l:List Int} (hneg:l.any (fun x=>decide (x<0))=false):badR l 0 l.length=(QaO l).any (badG l):=by
 have sm:=Qe7 l l.length (Nat.le_refl _)
 have mem:=Qdv l l.length (Nat.le_refl _)
 have ok:=Qc7 l l.length (Nat.le_refl _)
 rw [List.take_length] at sm mem ok
 cases hb:(QaO l).any (badG l) with
 |false=>
  have hm:marE l=0:=by unfold marE;rw [hneg,hb];rfl
  rw [Bool.eq_false_iff]
  intro h
  obtain ⟨j,_,hj,hp,hbad⟩:=(Qo4 l l.length 0).1 h
  obtain ⟨g,hg,hjg⟩:=Qx4 (l:=l) (x:=(j:Int)) (by omega) (by omega)
  have hgb:badG l g=false:=Bool.eq_false_iff.2 (List.any_eq_false.1 hb g hg)
  unfold badG at hgb
  rw [←sm g hg _ hjg,show decide (nthI l (j:Int)>0)=true from decide_eq_true hp] at hgb
  simp only [Bool.true_and,Bool.or_eq_false_iff,beq_eq_false_iff_ne] at hgb
  rcases hbad with hn|⟨k,k1,k2,k3,k4⟩
  ·
   have hx:∃x∈g,x≠(j:Int):=by
    obtain ⟨a,t,rfl,_⟩:=ok.heads g hg
    match t,hgb with
    | [],hgb=>exact absurd rfl hgb.1
    |b::t,_=>
     by_cases ha:a=(j:Int)
     ·refine ⟨b,by simp, ?_⟩
      have:=Qib hg
      have:=(List.pairwise_cons.1 this).1 b (by simp)
      omega
     ·exact ⟨a,by simp,ha⟩
   obtain ⟨x,hxg,hxj⟩:=hx
   unfold Qg6 at hn
   simp only [Bool.or_eq_false_iff,Bool.and_eq_false_iff,decide_eq_false_iff_not,beq_eq_false_iff_ne] at hn
   by_cases hlt:x<(j:Int)
   ·have hin:=Qm9 hg hxg hjg (j:=(j:Int)-1) (by omega) (by omega)
    have h0:=(mem g hg x hxg).1
    rcases hn.1 with q|q
    ·omega
    ·exact q (by rw [sm g hg _ hin,sm g hg _ hjg])
   ·have hin:=Qm9 hg hjg hxg (j:=(j:Int)+1) (by omega) (by omega)
    have h1:=(mem g hg x hxg).2
    rcases hn.2 with q|q
    ·omega
    ·exact q (by rw [sm g hg _ hin,sm g hg _ hjg])
  ·have hk:=QrX hm hg hjg (j:=(k:Int)) (by omega) (by omega) hp k3
   have hin:=Qm9 hg hjg hk (j:=(k:Int)-1) (by omega) (by omega)
   exact k4 (by rw [sm g hg _ hin,sm g hg _ hjg])
 |true=>
  obtain ⟨g,hg,hgb⟩:=List.any_eq_true.1 hb
  unfold badG at hgb
  simp only [Bool.and_eq_true,decide_eq_true_eq,Bool.or_eq_true] at hgb
  obtain ⟨hp,hc⟩:=hgb
  obtain ⟨a,t,hat,_⟩:=ok.heads g hg
  have hne:g≠ []:=by rw [hat];simp
  have hz:=Qta hne
  obtain ⟨z0,z1⟩:=mem g hg _ hz
  refine (Qo4 l l.length 0).2 ?_
  rcases hc with hc|hc
  ·
   have ht:t= []:=by
    rw [hat] at hc
    cases t with
    |nil=>rfl
    |cons b t=>simp at hc;omega
   rw [ht] at hat
   have ha:a∈g:=by rw [hat];simp
   obtain ⟨a0,a1⟩:=mem g hg a ha
   have hpa:nthI l a>0:=by rw [sm g hg a ha];exact hp
   have e:((a.toNat:Nat):Int)=a:=by omega
   refine ⟨a.toNat,by omega,by omega,by rw [e];exact hpa, .inl ?_⟩
   rw [e,Bool.eq_false_iff]
   intro hn
   unfold Qg6 at hn
   simp only [Bool.or_eq_true,Bool.and_eq_true,decide_eq_true_eq,beq_iff_eq] at hn
   rcases hn with ⟨q1,q2⟩|⟨q1,q2⟩
   ·obtain ⟨g',hg',b1,b2⟩:=adj (l:=l) (i:=(a-1).toNat) (by omega) (by rw [show (((a-1).toNat:Nat):Int)=a-1 by omega,q2];exact hpa) (by rw [show (((a-1).toNat:Nat):Int)=a-1 by omega,show a-1+1=a by omega,q2])
    rw [show (((a-1).toNat:Nat):Int)=a-1 by omega] at b1 b2
    rw [show a-1+1=a by omega] at b2
    rw [Ql2 hg hg' ha b2,hat] at b1
    simp at b1;omega
   ·obtain ⟨g',hg',b1,b2⟩:=adj (l:=l) (i:=a.toNat) (by omega) (by rw [e];exact hpa) (by rw [e];exact q2)
    rw [e] at b1 b2
    rw [Ql2 hg hg' ha b1,hat] at b2
    simp at b2;omega
  ·
   generalize hzz:g.getLastD 0=z at hz z0 z1 hc
   have hpz:nthI l z>0:=by rw [sm g hg z hz];exact hp
   have hex:∃j:Nat,z<(j:Int)∧j<l.length∧nthI l (j:Int)=nthI l z:=by
    have hm:=List.contains_iff_mem.1 hc
    obtain ⟨q,hq⟩:=List.mem_iff_getElem?.1 hm
    rw [List.getElem?_drop] at hq
    have hlt:=(List.getElem?_eq_some_iff.1 hq).1
    refine ⟨(z+1).toNat+q,by omega,hlt, ?_⟩
    rw [sm g hg z hz,←hzz] at*
    simp only [nthI,Int.toNat_natCast]
    rw [hzz,hq]
    rfl
   have e:((z.toNat:Nat):Int)=z:=by omega
   have least:∀d:Nat,∀j:Nat,z<(j:Int)→(j:Int)≤z+1+d→j<l.length→nthI l (j:Int)=nthI l z→∃k:Nat,z+2≤(k:Int)∧k<l.length∧nthI l (k:Int)=nthI l z∧nthI l ((k:Int)-1)≠nthI l z:=by
    intro d
    induction d with
    |zero=>
     intro j j1 j2 j3 j4
     exfalso
     have ej:(j:Int)=z+1:=by omega
     obtain ⟨g',hg',b1,b2⟩:=adj (l:=l) (i:=z.toNat) (by omega) (by rw [e];exact hpz) (by rw [e,←ej];exact j4)
     rw [e] at b1 b2
     rw [Ql2 hg hg' hz b1] at b2
     have:=QyM (Qib hg) b2
     rw [hzz] at this;omega
    |succ d ih=>
     intro j j1 j2 j3 j4
     by_cases hj:(j:Int)=z+1
     ·exact ih j j1 (by omega) j3 j4
     ·by_cases hq:nthI l ((j:Int)-1)=nthI l z
      ·have ej:(((j-1:Nat):Nat):Int)=(j:Int)-1:=by omega
       exact ih (j-1) (by omega) (by omega) (by omega) (by rw [ej];exact hq)
      ·exact ⟨j,by omega,j3,j4,hq⟩
   obtain ⟨j,j1,j2,j3⟩:=hex
   obtain ⟨k,k1,k2,k3,k4⟩:=least (j) j j1 (by omega) j2 j3
   exact ⟨z.toNat,by omega,by omega,by rw [e];exact hpz, .inr ⟨k,by omega,k2,by rw [e];exact k3,by rw [e];exact k4⟩⟩
theorem Qzj (l:List Int):refE l=marE l:=by
 unfold refE marE
 cases hneg:l.any (fun x=>decide (x<0)) with
 |true=>rfl
 |false=>rw [QzN hneg]
end Go.Proofs
