/- Chapter 35: lists of numbers on plain data: index, contains; the groups' numbers lie in their list. Conditions: as each says. -/
import Derived.Test.YtigmcfhmpcajlaaGreatDoorRk
import Derived.Test.YtigmcfhmpcajlaaGreatDoorGE
import Derived.Test.YtigmcfhmpcajlaaGreatDoorWg
set_option linter.unusedSimpArgs false
set_option linter.unusedVariables false
namespace Go.Proofs
open Go.Am
variable (lb:Nat)
def icv (x:Int):List CV:= [.int .i64 x]
def ixF (x:Int):Nat→List Int→Int
 |_, []=>-1
 |i,y::t=>if x==y then (i:Int) else ixF x (i+1) t
theorem Qu6 (x:Int):∀(l:List Int) (i:Nat),decide (ixF x i l≥0)=l.contains x
 | [],i=>by simp [ixF]
 |y::t,i=>by
  unfold ixF
  rw [List.contains_cons]
  cases h:x==y with
  |true=>simp
  |false=>simpa using Qu6 x t (i+1)
theorem QoY (bn:Bool) (l:List Int) (x:Int) (hl:l.length≤1000000):Ret lb QaZ [.list bn (l.map icv), .int .i64 x] (.int .i64 (ixF x 0 l)):=
 .top rfl ((Evt.diag (Qd8 (enc:=icv) (l:=l) (P:=fun p t n k=>QdT lb n k bn (l.map icv) x (p.length:Int)=some (.int .i64 (ixF x p.length t))) (by omega)
  (.all fun n k=>by
   rw [QfE]
   refine stF (decF (by simp)) ?_
   rw [QkX];rfl)
  (fun p y t h h1 h2 h3 ih=>ih.mono fun n hi k hk=>by
   rw [QfE]
   refine stT (decT h1) (stO _ h2 (stC rfl (stO _ rfl (stO _ (QaE ..) ?_))))
   unfold ixF
   cases hxy:x==y with
   |true=>exact stT rfl rfl
   |false=>
    refine stF rfl ?_
    rw [h3,hi k hk]
    simp) l [] rfl)).mono fun n h=>by rw [QmP];exact h)
theorem Qhv (bn:Bool) (l:List Int) (x:Int) (hl:l.length≤1000000):Ret lb Qdd [.list bn (l.map icv), .int .i64 x] (.bool (l.contains x)):=
 .top rfl ((QoY lb bn l x hl).mono fun n h=>by
  rw [QkP]
  refine stO _ h (stO _ (QaE ..) ?_)
  rw [Qu6])
theorem Qdv (l:List Int):∀k,k≤l.length→∀g∈(Qa6 (l.take k)).2.2,∀i∈g,0≤i∧i<(k:Int)
 |0,_,g,hg=>by simp [Qa6] at hg
 |k+1,h,g,hg=>by
  obtain ⟨x,hx⟩:∃x,l[k]?=some x:=⟨_,List.getElem?_eq_getElem (by omega)⟩
  have ih:=Qdv l k (by omega)
  rw [QcG hx] at hg
  simp only [stepG] at hg
  rw [Qd7 l k (by omega)] at hg
  intro i hi
  split at hg
  ·unfold Qjl at hg
   rcases List.mem_append.1 hg with hg|hg
   ·have:=ih g (List.dropLast_subset _ hg) i hi;omega
   ·simp only [List.mem_singleton] at hg
    subst hg
    rcases List.mem_append.1 hi with hi|hi
    ·cases hq:(Qa6 (l.take k)).2.2.getLast? with
     |none=>rw [hq] at hi;simp at hi
     |some g0=>
      rw [hq] at hi
      have:=ih g0 (List.mem_of_getLast? hq) i (by simpa using hi);omega
    ·simp only [List.mem_singleton] at hi;subst hi;omega
  ·rcases List.mem_append.1 hg with hg|hg
   ·have:=ih g hg i hi;omega
   ·simp only [List.mem_singleton] at hg;subst hg
    simp only [List.mem_singleton] at hi;subst hi;omega
theorem QjI (bn:Bool) (l:List Int) (hl:l.length≤1000000):Ret lb Qel [.list bn (l.map icv)] (.list l.isEmpty ((QaO l).map Qdt)):=
 .lib (s:=QgV) rfl (by
  have h:∀l:List Int,Qdr (l.map icv)=some l:=fun l=>by
   induction l with
   |nil=>rfl
   |cons x l ih=>simp [icv,Qdr] at ih⊢;exact ih
  simp only [QgV,h,if_pos (show l.length≤1000000000000 by omega)])
end Go.Proofs
set_option linter.unusedSimpArgs false
set_option linter.unusedVariables false
namespace Go.Proofs
open Go.Am
variable (lb:Nat)
def nthI (l:List Int) (i:Int):Int:=(l[i.toNat]?).getD 0
theorem Qe2 {l:List Int} {i:Int} (h0:0≤i) (h1:i<(l.length:Int)):atL (l.map icv) i=some (icv (nthI l i)):=by
 obtain ⟨k,rfl⟩:∃k:Nat,i=k:=⟨i.toNat,by omega⟩
 have hk:l[k]?=some l[k]:=List.getElem?_eq_getElem (by omega)
 refine Qa9 ?_
 rw [List.getElem?_map,hk]
 simp [nthI,hk]
theorem QuS (l:List Int):(l.map icv).all (·.length==1)=true:=by simp [icv]
def badG (l:List Int) (g:List Int):Bool:=decide (nthI l (g.headD 0)>0)&&(((g.length:Int)==1)||(l.drop ((g.getLastD 0+1).toNat)).contains (nthI l (g.headD 0)))
def marE (l:List Int):Int:=if l.any (fun x=>decide (x<0)) then 2 else if (QaO l).any (badG l) then 18 else 0
theorem QmQ (bn b:Bool) (l:List Int) (gs:List (List Int)) (hl:l.length≤1000000) (hgs:gs.length≤1000000) (hg:∀g∈gs,g≠ []∧g.length≤1000000∧∀i∈g,0≤i∧i<(l.length:Int)):
  Evt fun n=>QdG lb n n bn (l.map icv) (.list b (gs.map Qdt)) (b,gs.map Qdt) 0=some (.int .i64 (if gs.any (badG l) then 18 else 0)):=
 Evt.diag (Qd8 (enc:=Qdt) (l:=gs) (P:=fun p t n k=>QdG lb n k bn (l.map icv) (.list b (gs.map Qdt)) (b,gs.map Qdt) (p.length:Int)=some (.int .i64 (if t.any (badG l) then 18 else 0))) (by omega)
  (.all fun n k=>by
   rw [Qhu]
   refine stF (decF (by simp)) ?_
   rw [Qoi];rfl)
  (fun p g t h h1 h2 h3 ih=>by
   obtain ⟨q1,q2,q3⟩:=hg g (by rw [←h];simp)
   obtain ⟨a,r,rfl⟩:=List.exists_cons_of_ne_nil q1
   obtain ⟨a0,a1⟩:=q3 a (by simp)
   have hlast:(a::r).getLast (by simp)∈a::r:=List.getLast_mem _
   obtain ⟨z,hz⟩:∃z,(a::r).getLast (by simp)=z:=⟨_,rfl⟩
   rw [hz] at hlast
   obtain ⟨z0,z1⟩:=q3 z hlast
   have hzD:(a::r).getLastD 0=z:=by rw [←hz,List.getLastD_eq_getLast?,List.getLast?_eq_some_getLast (by simp)];rfl
   have hzg:((a::r).map icv)[r.length]?=some (icv z):=by
    rw [List.getElem?_map,←hz,List.getLast_eq_getElem]
    simp
   refine Evt.imp2 (Qhv lb bn (l.drop (z+1).toNat) (nthI l a) (by simp;omega)) ih fun n hc hi k hk=> ?_
   have hi:=hi k hk
   have hl1:((((a::r).map icv).length:Nat):Int)=(r.length:Int)+1:=by simp
   have hw:IntKind.wrap .i64 ((((a::r).map icv).length:Int)-1)=(r.length:Int):=by
    simp only [List.length_cons] at q2
    rw [hl1,QaD (by omega) (by omega)];omega
   have hw2:IntKind.wrap .i64 (z+1)=z+1:=QaD (by omega) (by omega)
   have hdr:((l.map icv).take (((l.map icv).length:Int).toNat)).drop (z+1).toNat=(l.drop (z+1).toNat).map icv:=by
    rw [List.take_of_length_le (by simp),List.map_drop]
   have hb:badG l (a::r)=(decide (nthI l a>0)&&((((a::r).length:Int)==1)||(l.drop (z+1).toNat).contains (nthI l a))):=by
    unfold badG
    rw [hzD]
    rfl
   rw [Qhu,List.any_cons,hb]
   refine stT (decT h1) (stO _ rfl (stO _ h2 (stC rfl (stO _ rfl (stO _ rfl (stO _ (Qa9 (i:=0) (c:=icv a) rfl) (stC rfl (stO _ rfl (stO _ rfl (stO _ (Qe2 a0 a1) (stC rfl (stO _ rfl (stO _ (QaE ..) ?_)))))))))))))
   cases hp:decide (nthI l a>0) with
   |false=>
    refine stF rfl ?_
    rw [h3,hi]
    rfl
   |true=>
    refine stT rfl (stO _ rfl ?_)
    cases ho:(((a::r).length:Int)==1) with
    |true=>
     refine stT (by simpa using ho) ?_
     rfl
    |false=>
     refine stF (by simpa using ho) (stO _ rfl (stO _ rfl (stO (icv z) ?_ (stC rfl (stO _ rfl (stO _ (QaE ..) (stC (QuS l) (stC (decT ?_) (stO (.bool ((l.drop (z+1).toNat).contains (nthI l a))) ?_ (stO _ (QaP _) ?_))))))))))
     ·show atL ((a::r).map icv) (IntKind.wrap .i64 ((((a::r).map icv).length:Int)-1))=_
      rw [hw];exact Qa9 hzg
     ·rw [hw2];simp;omega
     ·rw [hw2,hdr];exact hc
     ·cases hq:(l.drop (z+1).toNat).contains (nthI l a) with
      |true=>exact stT rfl rfl
      |false=>
       refine stF rfl ?_
       rw [h3,hi]
       rfl) gs [] rfl)
theorem Qko (bn:Bool) (l:List Int) (hl:l.length≤1000000):Ret lb QaQ [.list bn (l.map icv)] (.int .i64 (marE l)):=by
 have ok:=Qc7 l l.length (Nat.le_refl _)
 have mem:=Qdv l l.length (Nat.le_refl _)
 rw [List.take_length] at ok mem
 have hgs:∀g∈QaO l,g≠ []∧g.length≤1000000∧∀i∈g,0≤i∧i<(l.length:Int):=fun g hg=>by
  obtain ⟨a,t,rfl,_⟩:=ok.heads g hg
  exact ⟨by simp,by have:=ok.lens _ hg;omega,mem _ hg⟩
 have hlen:(QaO l).length≤1000000:=by have:=ok.len;unfold QaO;omega
 exact .top rfl ((Evt.diag (Qd8 (enc:=icv) (l:=l) (P:=fun p t n k=>marry_Check_L1 lb n k bn (l.map icv) (p.length:Int)=some (.int .i64 (if t.any (fun x=>decide (x<0)) then 2 else if (QaO l).any (badG l) then 18 else 0))) (by omega)
  (Evt.imp2 (QjI lb bn l hl) (QmQ lb bn l.isEmpty l (QaO l) hl hlen hgs) fun n h1 h2 k=>by
   rw [QhA]
   refine stF (decF (by simp)) ?_
   rw [Qn2]
   exact stO _ h1 (stO _ rfl h2))
  (fun p y t h h1 h2 h3 ih=>ih.mono fun n hi k hk=>by
   rw [QhA,List.any_cons]
   refine stT (decT h1) (stO _ h2 (stC rfl (stO _ rfl (stO _ (QaE ..) ?_))))
   cases hy:decide (y<0) with
   |true=>exact stT rfl rfl
   |false=>
    refine stF rfl ?_
    rw [h3,hi k hk]
    rfl) l [] rfl)).mono fun n h=>by rw [Qrx];exact h)
end Go.Proofs
set_option linter.unusedSimpArgs false
set_option linter.unusedVariables false
namespace Go.Proofs
open Go.Am
variable (lb:Nat)
def Qjj (l:List Int):CV:=if marE l=0 then .tup [.list l.isEmpty ((QaO l).map Qdt), .int .i64 0] else .tup [.list true [], .int .i64 (marE l)]
theorem Qjv (bn:Bool) (l:List Int) (hl:l.length≤1000000):Ret lb Qh1 [.list bn (l.map icv)] (Qjj l):=
 .top rfl (Evt.imp2 (Qko lb bn l hl) (QjI lb bn l hl) fun n h1 h2=>by
  rw [Qp3]
  refine stO _ h1 (stO _ (QaE ..) ?_)
  unfold Qjj
  by_cases h:marE l=0
  ·rw [if_pos h]
   exact stF (bneF h) (stO _ h2 rfl)
  ·rw [if_neg h]
   exact stT (bneT h) rfl)
def QlH (l:List Int) (x:Int):CV:=if marE l=0 then (match (QaO l).find? (·.contains x) with
 |some g=> .tup [.list false (g.map icv), .int .i64 0]
 |none=> .tup [.list true [], .int .i64 2]) else .tup [.list true [], .int .i64 (marE l)]
theorem Qrb (bn:Bool) (l:List Int) (x:Int) (hl:l.length≤1000000):Ret lb QbM [.list bn (l.map icv), .int .i64 x] (QlH l x):=by
 have ok:=Qc7 l l.length (Nat.le_refl _)
 rw [List.take_length] at ok
 have hlens:∀g∈QaO l,g.length≤1000000:=fun g hg=>by have:=ok.lens _ hg;omega
 have hlen:(QaO l).length≤1000000:=by have:=ok.len;unfold QaO;omega
 obtain ⟨gs,hgs⟩:∃gs,QaO l=gs:=⟨_,rfl⟩
 by_cases he:marE l=0
 ·have hw:QlH l x=(match gs.find? (·.contains x) with
   |some g=> .tup [.list false (g.map icv), .int .i64 0]
   |none=> .tup [.list true [], .int .i64 2]):=by unfold QlH;rw [if_pos he,hgs]
  have hv:Qjj l= .tup [.list l.isEmpty (gs.map Qdt), .int .i64 0]:=by unfold Qjj;rw [if_pos he,hgs]
  rw [hgs] at hlens hlen
  have hG:=Qjv lb bn l hl
  rw [hv] at hG
  rw [hw]
  refine .top rfl (Evt.imp2 hG (Evt.diag (Qd8 (enc:=Qdt) (l:=gs) (P:=fun p t n k=>Qgf lb n k bn (l.map icv) x (.list l.isEmpty (gs.map Qdt)) (.int .i64 0) (.tup [.list l.isEmpty (gs.map Qdt), .int .i64 0]) (l.isEmpty,gs.map Qdt) (p.length:Int)=some (match t.find? (·.contains x) with
   |some g=> .tup [.list false (g.map icv), .int .i64 0]
   |none=> .tup [.list true [], .int .i64 2])) (by omega)
   (.all fun n k=>by
    rw [Qir]
    refine stF (decF (by simp)) ?_
    rw [Qpt];rfl)
   (fun p g t h h1 h2 h3 ih=>Evt.imp2 (Qhv lb false g x (hlens g (by rw [←h];simp))) ih fun n hc hi k hk=>by
    rw [Qir,List.find?_cons]
    refine stT (decT h1) (stO _ rfl (stO _ h2 (stC rfl (stO _ rfl (stO _ hc (stO _ (QaP _) ?_))))))
    cases hq:g.contains x with
    |true=>exact stT rfl rfl
    |false=>
     refine stF rfl ?_
     rw [h3,hi k hk]) gs [] rfl)) fun n h1 h2=>by
    rw [Qmh]
    exact stO _ h1 (stO _ rfl (stO _ rfl (stO _ rfl (stO _ rfl (stO _ rfl (stF rfl (stO _ rfl h2))))))))
 ·have hv:Qjj l= .tup [.list true [], .int .i64 (marE l)]:=by unfold Qjj;rw [if_neg he]
  have hw:QlH l x= .tup [.list true [], .int .i64 (marE l)]:=by unfold QlH;rw [if_neg he]
  have hG:=Qjv lb bn l hl
  rw [hv] at hG
  rw [hw]
  exact .top rfl (hG.mono fun n h=>by
   rw [Qmh]
   exact stO _ h (stO _ rfl (stO _ rfl (stO _ rfl (stO _ rfl (stO _ (QaE ..) (stT (bneT he) rfl)))))))
end Go.Proofs
