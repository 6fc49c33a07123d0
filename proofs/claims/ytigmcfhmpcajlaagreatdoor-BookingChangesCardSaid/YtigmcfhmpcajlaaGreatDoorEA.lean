/- Chapter 35: the reference's change of a booking on plain data. Conditions: as each says. -/
import Derived.Test.YtigmcfhmpcajlaaGreatDoorBE
import Derived.Test.YtigmcfhmpcajlaaGreatDoorCn
import Derived.Test.YtigmcfhmpcajlaaGreatDoorGi
set_option linter.unusedSimpArgs false
set_option linter.unusedVariables false
namespace Go.Proofs
open Go.Am
variable (lb:Nat)
def QsU (s e:Int):Int:=if QaB s e=0 then-1 else QaB s e
theorem Qqe (s e:Int):0≤QaB s e∧QaB s e≤7:=by
 unfold QaB Qki
 simp only [Bool.cond_eq_ite]
 repeat' split
 all_goals omega
theorem Qud (s e:Int):Ret lb Ql9 [.int .i64 s, .int .i64 e] (.int .i64 (QsU s e)):=by
 by_cases he:1≤e∧e≤8
 ·by_cases hs:0≤s∧s≤7
  ·have h1:s=0∨s=1∨s=2∨s=3∨s=4∨s=5∨s=6∨s=7:=by omega
   have h2:e=1∨e=2∨e=3∨e=4∨e=5∨e=6∨e=7∨e=8:=by omega
   rcases h1 with rfl|rfl|rfl|rfl|rfl|rfl|rfl|rfl<;>rcases h2 with rfl|rfl|rfl|rfl|rfl|rfl|rfl|rfl<;>exact .top rfl (.all fun n=>by rw [QkV];rfl)
  ·have k0:(s==0)=false:=beqF (by omega)
   have k1:(s==1)=false:=beqF (by omega)
   have k2:(s==2)=false:=beqF (by omega)
   have k3:(s==3)=false:=beqF (by omega)
   have k4:(s==4)=false:=beqF (by omega)
   have k5:(s==5)=false:=beqF (by omega)
   have k6:(s==6)=false:=beqF (by omega)
   have ha:QaB s e=0:=by unfold QaB;simp only [k0,k1,k2,k3,k4,k5,k6,cond_false]
   have hv:QsU s e=-1:=if_pos ha
   rw [hv]
   have hd:decide (s>0)=false∨decide (s<7)=false:=by
    by_cases h:s>0
    ·exact .inr (decF (by omega))
    ·exact .inl (decF h)
   have h2:e=1∨e=2∨e=3∨e=4∨e=5∨e=6∨e=7∨e=8:=by omega
   refine .top rfl (.all fun n=> ?_)
   rw [QkV,k1,k3,k0,k4,k5,k2]
   rcases hd with hd|hd<;>rcases h2 with rfl|rfl|rfl|rfl|rfl|rfl|rfl|rfl<;>(try rw [hd])<;>first|rfl|(cases decide (s>0)<;>rfl)
 ·have k1:(e==1)=false:=beqF (by omega)
  have k2:(e==2)=false:=beqF (by omega)
  have k3:(e==3)=false:=beqF (by omega)
  have k4:(e==4)=false:=beqF (by omega)
  have k5:(e==5)=false:=beqF (by omega)
  have k6:(e==6)=false:=beqF (by omega)
  have k7:(e==7)=false:=beqF (by omega)
  have k8:(e==8)=false:=beqF (by omega)
  have ha:QaB s e=0:=by
   unfold QaB Qki
   simp only [k1,k2,k3,k4,k5,k6,k7,k8,cond_false,Bool.cond_self]
  have hv:QsU s e=-1:=if_pos ha
  rw [hv]
  refine .top rfl (.all fun n=> ?_)
  rw [QkV]
  simp only [k1,k2,k3,k4,k5,k6,k7,k8,cond_false]
  cases s==1<;>cases s==3<;>rfl
theorem QjB (s e:Int):Ret lb Qhg [.int .i64 s, .int .i64 e] (QeG s e):=
 .top rfl ((Qud lb s e).mono fun n h=>by
  have hr:=Qqe s e
  rw [Qur]
  refine stO _ h (stO _ (QaE ..) ?_)
  unfold QeG QsU
  by_cases ha:QaB s e=0
  ·rw [if_pos ha,ha];exact stT rfl rfl
  ·rw [if_neg ha,beqF ha];exact stF (decF (by omega)) rfl)
def Qgh (l:List Int) (x i:Int):Bool:=i==x||(decide (nthI l i>0)&&(nthI l i==nthI l x))
def QbO (l:List Int) (x:Int) (k:Nat):List Int:=(upTo k).filter (Qgh l x)
theorem Qvy (l:List Int) (x:Int) (k:Nat):QbO l x (k+1)=if Qgh l x (k:Int) then QbO l x k++ [(k:Int)] else QbO l x k:=by
 unfold QbO
 rw [Qiu,List.filter_append,List.filter_cons]
 cases Qgh l x (k:Int)<;>simp
theorem QwK (l:List Int) (x:Int) (k:Nat):(QbO l x k).length≤k:=by
 have h1:=List.length_filter_le (Qgh l x) (upTo k)
 have h2:(upTo k).length=k:=by simp [upTo]
 unfold QbO;omega
theorem Qtm (bn:Bool) (l:List Int) (x:Int) (hl:l.length≤1000000) (hm:marE l=0) (h0:0≤x) (h1:x<(l.length:Int)):
  Ret lb Qcd [.list bn (l.map icv), .int .i64 x] (.tup [.list (QbO l x l.length).isEmpty ((QbO l x l.length).map icv), .int .i64 0]):=by
 have hC:=QmE lb bn l hl
 rw [hm] at hC
 have hax:=Qe2 h0 h1
 have hL:Evt fun n=>Qcx lb n n bn (l.map icv) x (.int .i64 0) true [] 0=some (.tup [.list (QbO l x l.length).isEmpty ((QbO l x l.length).map icv), .int .i64 0]):=
  (Evt.diag (Qd8 (enc:=icv) (l:=l) (P:=fun p t n k=>Qcx lb n k bn (l.map icv) x (.int .i64 0) (QbO l x p.length).isEmpty ((QbO l x p.length).map icv) (p.length:Int)=some (.tup [.list (QbO l x l.length).isEmpty ((QbO l x l.length).map icv), .int .i64 0])) (by omega)
   (.all fun n k=>by
    rw [QjH]
    refine stF (decF (by simp)) ?_
    rw [QqW])
   (fun p y t he q1 q2 q3 ih=>ih.mono fun n hi k hk=>by
    have hpl:p.length+(t.length+1)=l.length:=by rw [←he];simp
    have hi:=hi k hk
    have hwl:=QwK l x p.length
    have hny:nthI l (p.length:Int)=y:=by
     unfold nthI
     rw [Int.toNat_natCast,←he];simp
    have hlen1:(p++ [y]).length=p.length+1:=by simp
    rw [hlen1,Qvy] at hi
    have step:Qgh l x (p.length:Int)=true→chkO (room (((QbO l x p.length).map icv).length+1) 8) (Qcx lb n k bn (l.map icv) x (.int .i64 0) ((QbO l x p.length).isEmpty&&false) ((QbO l x p.length).map icv++ [[CV.int .i64 (p.length:Int)]]) (IntKind.wrap .i64 ((p.length:Int)+1)))=some (.tup [.list (QbO l x l.length).isEmpty ((QbO l x l.length).map icv), .int .i64 0]):=fun hw=>by
     rw [hw] at hi
     refine stC (Qdj (by simp;omega)) ?_
     rw [q3,hlen1]
     have e1:((QbO l x p.length).isEmpty&&false)=(QbO l x p.length++ [(p.length:Int)]).isEmpty:=by simp
     have e2:(QbO l x p.length).map icv++ [[CV.int .i64 (p.length:Int)]]=(QbO l x p.length++ [(p.length:Int)]).map icv:=by simp [icv]
     rw [e1,e2]
     exact hi
    have skip:Qgh l x (p.length:Int)=false→Qcx lb n k bn (l.map icv) x (.int .i64 0) (QbO l x p.length).isEmpty ((QbO l x p.length).map icv) (IntKind.wrap .i64 ((p.length:Int)+1))=some (.tup [.list (QbO l x l.length).isEmpty ((QbO l x l.length).map icv), .int .i64 0]):=fun hw=>by
     rw [hw] at hi
     rw [q3,hlen1]
     exact hi
    rw [QjH]
    refine stT (decT q1) ?_
    cases hx:((p.length:Int)==x) with
    |true=>exact stT rfl (step (by unfold Qgh;rw [hx];rfl))
    |false=>
     refine stF rfl (stO _ q2 (stC rfl (stO _ rfl (stO _ (QaE ..) ?_))))
     cases hp:decide (y>0) with
     |false=>exact stF rfl (skip (by unfold Qgh;rw [hx,hny,hp];rfl))
     |true=>
      refine stT rfl (stO _ q2 (stC rfl (stO _ rfl (stO _ hax (stC rfl (stO _ rfl (stO _ (QaE ..) (stO _ (QaE ..) ?_))))))))
      cases hq:y==nthI l x with
      |true=>exact stT rfl (step (by unfold Qgh;rw [hx,hny,hp,hq];rfl))
      |false=>exact stF rfl (skip (by unfold Qgh;rw [hx,hny,hp,hq];rfl))) l [] rfl)).mono fun n h=>h
 refine .top rfl (Evt.imp2 hC hL fun n c h=> ?_)
 rw [Quu]
 exact stO _ c (stO _ (QaE ..) (stF rfl (stF (decF (by omega)) (stF (decF (by rw [List.length_map];omega)) h))))
theorem Qxg:∀{a b:List Int},a.Pairwise (· < ·)→b.Pairwise (· < ·)→(∀i,i∈a↔i∈b)→a=b
 | [], [],_,_,_=>rfl
 | [],y::b,_,_,h=>absurd ((h y).2 (List.mem_cons_self ..)) (by simp)
 |x::a, [],_,_,h=>absurd ((h x).1 (List.mem_cons_self ..)) (by simp)
 |x::a,y::b,ha,hb,h=>by
  obtain ⟨a1,a2⟩:=List.pairwise_cons.1 ha
  obtain ⟨b1,b2⟩:=List.pairwise_cons.1 hb
  have hxy:x=y:=by
   have m1:=(h x).1 (List.mem_cons_self ..)
   have m2:=(h y).2 (List.mem_cons_self ..)
   rcases List.mem_cons.1 m1 with e|m1
   ·exact e
   ·rcases List.mem_cons.1 m2 with e|m2
    ·exact e.symm
    ·have:=a1 y m2
     have:=b1 x m1
     omega
  subst hxy
  rw [Qxg a2 b2 fun i=>⟨fun hi=> ?_,fun hi=> ?_⟩]
  ·rcases List.mem_cons.1 ((h i).1 (List.mem_cons_of_mem _ hi)) with e|m
   ·have:=a1 i hi;omega
   ·exact m
  ·rcases List.mem_cons.1 ((h i).2 (List.mem_cons_of_mem _ hi)) with e|m
   ·have:=b1 i hi;omega
   ·exact m
theorem Qow (l:List Int):∀k,k≤l.length→∀g∈(Qa6 (l.take k)).2.2,2≤g.length→nthI l (g.headD 0)>0
 |0,_,g,hg,_=>by simp [Qa6] at hg
 |k+1,h,g,hg,h2=>by
  obtain ⟨x,hx⟩:∃x,l[k]?=some x:=⟨_,List.getElem?_eq_getElem (by omega)⟩
  have ih:=Qow l k (by omega)
  have sm:=Qe7 l (k+1) h g hg
  rw [QcG hx] at hg
  simp only [stepG] at hg
  rw [Qd7 l k (by omega)] at hg
  split at hg
  ·rename_i hc
   unfold Qjl at hg
   rcases List.mem_append.1 hg with hg|hg
   ·exact ih g (List.dropLast_subset _ hg) h2
   ·simp only [List.mem_singleton] at hg
    have hk:(k:Int)∈g:=by rw [hg];simp
    rw [←sm _ hk]
    have:nthI l (k:Int)=x:=by simp [nthI,hx]
    rw [this];exact hc.1
  ·rcases List.mem_append.1 hg with hg|hg
   ·exact ih g hg h2
   ·simp only [List.mem_singleton] at hg;subst hg;simp at h2
theorem QwZ {l:List Int} {g:List Int} (hg:g∈QaO l) {i x:Int} (hi:i∈g) (hx:x∈g) (he:¬i=x):nthI l i>0:=by
 have hsame:=Qe7 l l.length (Nat.le_refl _)
 have hmany:=Qow l l.length (Nat.le_refl _)
 rw [List.take_length] at hsame hmany
 rw [hsame g hg i hi]
 refine hmany g hg ?_
 match g,hi,hx with
 | [a],hi,hx=>
  simp only [List.mem_singleton] at hi hx
  exact absurd (hi.trans hx.symm) he
 |_::_::_,_,_=>simp
theorem QvI {l:List Int} (hm:marE l=0) {x:Int} (h0:0≤x) (h1:x<(l.length:Int)) {g:List Int} (hg:g∈QaO l) (hx:x∈g):QbO l x l.length=g:=by
 have hmem:=Qdv l l.length (Nat.le_refl _)
 have hsame:=Qe7 l l.length (Nat.le_refl _)
 rw [List.take_length] at hmem hsame
 refine Qxg ((Qln l.length).filter _) (Qib hg) fun i=> ?_
 unfold QbO
 rw [List.mem_filter,QeH]
 constructor
 ·rintro ⟨⟨i0,i1⟩,hw⟩
  unfold Qgh at hw
  simp only [Bool.or_eq_true,Bool.and_eq_true,beq_iff_eq,decide_eq_true_eq] at hw
  rcases hw with rfl|⟨w1,w2⟩
  ·exact hx
  ·exact QrX hm hg hx i0 i1 (by omega) w2
 ·intro hi
  have hr:=hmem g hg i hi
  refine ⟨hr, ?_⟩
  unfold Qgh
  simp only [Bool.or_eq_true,Bool.and_eq_true,beq_iff_eq,decide_eq_true_eq]
  by_cases e:i=x
  ·exact .inl e
  ·refine .inr ?_
   have s1:=hsame g hg i hi
   have s2:=hsame g hg x hx
   refine ⟨?_,by rw [s1,s2]⟩
   exact QwZ hg hi hx e
end Go.Proofs
set_option linter.unusedSimpArgs false
set_option linter.unusedVariables false
namespace Go.Proofs
open Go.Am
variable (lb:Nat)
theorem Qxb (n:Nat) (jj:List UInt8) (jb:Bool) (jf:List (List CV)) (jg:Int) (je:Bool) (ja:List (List CV)) (jd:Bool) (jh:List (List CV)) (jc jn jo:Int) (wH y7 yS wd:CV) (wv:List CV) (wL wG:CV) (l:List Sg) (h6:ja=l.map sgE) (all:List Int) (b:Bool) (hv:yS= .list b (all.map icv)) (hall:all.length≤1000000):∀(t p:List Int) (acc:List Sg),p++t=all→acc.length=l.length→(∀i∈t,0≤i∧i<(l.length:Int))→
  Evt fun n=>∀k,t.length<k→Qgl lb n k jj jb jf jg je ja jd jh jc jn jo wH y7 yS wd wv wL wG (p.length:Int) (acc.map sgE)=some (chgV jj jb jf jg jd jh jc all b (chgF jo t acc))
 | [],p,acc,h,hl,ht=> .all fun n k hk=>by
  obtain ⟨k,rfl⟩:∃m,k=m+1:=⟨k-1,by simp at hk;omega⟩
  have hp:p=all:=by simpa using h
  subst hv;subst h6
  rw [Qio]
  refine stO _ rfl (stF (decF (by simp [hp])) ?_)
  rw [Qpv]
  refine stC (by simp [hl]) ?_
  have htk:((acc.map sgE).drop 0).take (l.map sgE).length=acc.map sgE:=by
   rw [List.drop_zero,List.take_of_length_le (by simp [hl])]
  rw [htk]
  rfl
 |i::t,p,acc,h,hl,ht=>by
  obtain ⟨i0,i1⟩:=ht i (by simp)
  have hpl:p.length+(t.length+1)=all.length:=by rw [←h];simp
  obtain ⟨s,hs⟩:∃s,acc[i.toNat]?=some s:=⟨_,List.getElem?_eq_getElem (by omega)⟩
  refine Evt.imp2 (QjB lb s.st jo) (Qxb n jj jb jf jg je ja jd jh jc jn jo wH y7 yS wd wv wL wG l h6 all b hv hall t (p++ [i]) (acc.set i.toNat (QcO s (QaB s.st jo))) (by rw [←h];simp) (by simpa using hl) (fun j hj=>ht j (by simp [hj]))) fun n hn hi k hk=> ?_
  obtain ⟨k,rfl⟩:∃m,k=m+1:=⟨k-1,by simp at hk;omega⟩
  have hi:=hi k (by simp at hk;omega)
  have hw:IntKind.wrap .i64 ((p.length:Int)+1)=((p++ [i]).length:Int):=by rw [QaD (by omega) (by omega)];simp
  have hat:atL (all.map icv) (p.length:Int)=some (icv i):=Qa9 (by rw [List.getElem?_map,←h];simp)
  have hg:(acc.map sgE)[0+i.toNat]?=some (sgE s):=by rw [Nat.zero_add,List.getElem?_map,hs];rfl
  have hrng:(decide (0≤i)&&decide (i<(((l.map sgE).length:Nat):Int)))=true:=by simp;omega
  subst hv;subst h6
  rw [Qio]
  have hF:chgF jo (i::t) acc=(bif QaB s.st jo==0 then none else chgF jo t (acc.set i.toNat (QcO s (QaB s.st jo)))):=by
   show (match acc[i.toNat]? with
    |some s=>bif QaB s.st jo==0 then none else chgF jo t (acc.set i.toNat (QcO s (QaB s.st jo)))
    |none=>none)=_
   rw [hs]
  rw [hF]
  refine stO _ rfl (stT (decT (by simp;omega)) (stO _ rfl (stO _ hat (stC rfl (stO _ rfl (stO i rfl (stC hrng (stO _ hg (stO _ rfl (stO _ hn ?_))))))))))
  unfold QeG
  cases ha:QaB s.st jo==0 with
  |true=>exact stO _ rfl (stO _ rfl (stO _ rfl (stO _ rfl (stO _ rfl (stT rfl rfl)))))
  |false=>
   refine stO _ rfl (stO _ rfl (stO _ rfl (stO _ rfl (stO _ rfl (stF rfl (stO _ rfl (stO _ hat (stC rfl (stO _ rfl (stO i rfl (stC hrng (stC rfl (stO _ hg (stC rfl ?_))))))))))))))
   rw [hw,Qk5]
   exact hi
theorem Qw6 (n:Nat) (jj:List UInt8) (jb:Bool) (jf:List (List CV)) (jg:Int) (je:Bool) (ja:List (List CV)) (jd:Bool) (jh:List (List CV)) (jc jn jo:Int) (wH wG wd:CV) (wv:List CV) (wL:CV) (l:List Sg) (h6:ja=l.map sgE) (all:List Int) (hone:all= [jn]) (hall:all.length≤1000000):∀(t p:List Int) (acc:List Sg),p++t=all→acc.length=l.length→(∀i∈t,0≤i∧i<(l.length:Int))→
  Evt fun n=>∀k,t.length<k→Qgm lb n k jj jb jf jg je ja jd jh jc jn jo wH wG wd wv wL (p.length:Int) (acc.map sgE)=some (chgV jj jb jf jg jd jh jc all false (chgF jo t acc))
 | [],p,acc,h,hl,ht=> .all fun n k hk=>by
  obtain ⟨k,rfl⟩:∃m,k=m+1:=⟨k-1,by simp at hk;omega⟩
  have hp:p=all:=by simpa using h
  subst h6
  rw [Qil]
  refine stF (decF (by rw [hp,hone];simp)) ?_
  rw [Qpd]
  refine stC (by simp [hl]) ?_
  have htk:((acc.map sgE).drop 0).take (l.map sgE).length=acc.map sgE:=by
   rw [List.drop_zero,List.take_of_length_le (by simp [hl])]
  rw [htk,hone]
  rfl
 |i::t,p,acc,h,hl,ht=>by
  obtain ⟨i0,i1⟩:=ht i (by simp)
  have hpl:p.length+(t.length+1)=all.length:=by rw [←h];simp
  obtain ⟨s,hs⟩:∃s,acc[i.toNat]?=some s:=⟨_,List.getElem?_eq_getElem (by omega)⟩
  refine Evt.imp2 (QjB lb s.st jo) (Qw6 n jj jb jf jg je ja jd jh jc jn jo wH wG wd wv wL l h6 all hone hall t (p++ [i]) (acc.set i.toNat (QcO s (QaB s.st jo))) (by rw [←h];simp) (by simpa using hl) (fun j hj=>ht j (by simp [hj]))) fun n hn hi k hk=> ?_
  obtain ⟨k,rfl⟩:∃m,k=m+1:=⟨k-1,by simp at hk;omega⟩
  have hi:=hi k (by simp at hk;omega)
  have hw:IntKind.wrap .i64 ((p.length:Int)+1)=((p++ [i]).length:Int):=by rw [QaD (by omega) (by omega)];simp
  have hat:atL (all.map icv) (p.length:Int)=some (icv i):=Qa9 (by rw [List.getElem?_map,←h];simp)
  have hg:(acc.map sgE)[0+i.toNat]?=some (sgE s):=by rw [Nat.zero_add,List.getElem?_map,hs];rfl
  have hrng:(decide (0≤i)&&decide (i<(((l.map sgE).length:Nat):Int)))=true:=by simp;omega
  subst h6
  rw [Qil]
  have hF:chgF jo (i::t) acc=(bif QaB s.st jo==0 then none else chgF jo t (acc.set i.toNat (QcO s (QaB s.st jo)))):=by
   show (match acc[i.toNat]? with
    |some s=>bif QaB s.st jo==0 then none else chgF jo t (acc.set i.toNat (QcO s (QaB s.st jo)))
    |none=>none)=_
   rw [hs]
  rw [hF]
  refine stT (decT (by rw [hone] at hpl;simp at hpl;omega)) (stO _ (by rw [hone] at hat;exact hat) (stC rfl (stO _ rfl (stO i rfl (stC hrng (stO _ hg (stO _ rfl (stO _ hn ?_))))))))
  unfold QeG
  cases ha:QaB s.st jo==0 with
  |true=>exact stO _ rfl (stO _ rfl (stO _ rfl (stO _ rfl (stO _ rfl (stT rfl rfl)))))
  |false=>
   refine stO _ rfl (stO _ rfl (stO _ rfl (stO _ rfl (stO _ rfl (stF rfl (stO _ (by rw [hone] at hat;exact hat) (stC rfl (stO _ rfl (stO i rfl (stC hrng (stC rfl (stO _ hg (stC rfl ?_)))))))))))))
   rw [hw,Qk5]
   exact hi
theorem Qk9 (b:Bk) (x e:Int) (hl:b.segs.length≤49) (hm:marE (mars b.segs)=0):Ret lb Qap [.agg (bkE b), .int .i64 x, .int .i64 e] (QeT b.loc b.pn (b.ps.map peE) b.grp b.segs b.rn (b.svs.map svE) b.lim x e):=by
 have eqn:∀n,top lb n Qap [.agg (bkE b), .int .i64 x, .int .i64 e]=_:=fun n=>Qsn lb n b.loc b.pn (b.ps.map peE) b.grp b.bn (b.segs.map sgE) b.rn (b.svs.map svE) b.lim x e
 have hlm:(((b.segs.map sgE).length:Nat):Int)=(b.segs.length:Int):=by simp
 unfold QeT
 by_cases h0:x<0
 ·rw [if_pos (.inl h0)]
  exact .top rfl (.all fun n=>by rw [eqn];exact stT (decT h0) rfl)
 by_cases h1:x≥(b.segs.length:Int)
 ·rw [if_pos (.inr h1)]
  exact .top rfl (.all fun n=>by rw [eqn];exact stF (decF h0) (stT (decT (by rw [hlm];exact h1)) rfl))
 rw [if_neg (by omega)]
 obtain ⟨s,hs⟩:∃s,b.segs[x.toNat]?=some s:=⟨_,List.getElem?_eq_getElem (by omega)⟩
 rw [hs]
 have hat:atL (b.segs.map sgE) x=some (sgE s):=by
  obtain ⟨k,rfl⟩:∃k:Nat,x=k:=⟨x.toNat,by omega⟩
  exact Qa9 (by rw [List.getElem?_map];simp at hs;rw [hs];rfl)
 have hall10:(b.segs.map sgE).all (·.length==10)=true:=by simp [sgE]
 have hroom:room (b.segs.map sgE).length 112=true:=Qdj (by simp;omega)
 have hemp:(b.segs.map sgE).isEmpty=false:=by
  cases hq:b.segs with
  |nil=>rw [hq] at hs;simp at hs
  |cons a t=>rfl
 simp only
 have hN:=QjB lb s.st e
 by_cases ha:QaB s.st e=0
 ·rw [if_pos ha]
  exact .top rfl (hN.mono fun n h=>by
   rw [eqn]
   refine stF (decF h0) (stF (decF (by rw [hlm];exact h1)) (stO _ hat (stC rfl (stO _ rfl (stO _ h ?_)))))
   unfold QeG
   rw [ha]
   exact stO _ rfl (stO _ rfl (stO _ rfl (stO _ rfl (stO _ rfl (stT rfl rfl))))))
 ·rw [if_neg ha]
  have hnv:QeG s.st e= .tup [.int .i64 (QaB s.st e), .int .i64 0]:=by unfold QeG;rw [beqF ha];rfl
  rw [hnv] at hN
  have hx:∀i∈ [x],0≤i∧i<(b.segs.length:Int):=fun i hi=>by simp at hi;omega
  have L8:=(Evt.diag (Qw6 lb 0 b.loc b.pn (b.ps.map peE) b.grp b.bn (b.segs.map sgE) b.rn (b.svs.map svE) b.lim x e (.int .i64 (QaB s.st e)) (.int .i64 0) (.tup [.int .i64 (QaB s.st e), .int .i64 0]) (sgE s) (.int .i64 s.st) b.segs rfl [x] rfl (by simp) [x] [] b.segs rfl rfl hx))
  have J6:Evt fun n=>QeK lb n b.loc b.pn (b.ps.map peE) b.grp b.bn (b.segs.map sgE) b.rn (b.svs.map svE) b.lim x e (.int .i64 (QaB s.st e)) (.int .i64 0) (.tup [.int .i64 (QaB s.st e), .int .i64 0]) (sgE s) (.int .i64 s.st)=some (chgV b.loc b.pn (b.ps.map peE) b.grp b.rn (b.svs.map svE) b.lim [x] false (chgF e [x] b.segs)):=
   L8.mono fun n h=>by
    rw [Qpb]
    exact stC hall10 (stC hroom (stF hemp h))
  cases h5:e !=5 with
  |false=>
   have hA:allF b.segs x e= [x]:=by unfold allF;rw [h5];rfl
   rw [hA]
   exact .top rfl (Evt.imp2 hN J6 fun n h hJ=>by
    rw [eqn]
    exact stF (decF h0) (stF (decF (by rw [hlm];exact h1)) (stO _ hat (stC rfl (stO _ rfl (stO _ h (stO _ rfl (stO _ rfl (stO _ rfl (stO _ rfl (stO _ rfl (stF rfl (stF h5 hJ)))))))))))))
  |true=>
  cases h6:e !=6 with
  |false=>
   have hA:allF b.segs x e= [x]:=by unfold allF;rw [h5,h6];rfl
   rw [hA]
   exact .top rfl (Evt.imp2 hN J6 fun n h hJ=>by
    rw [eqn]
    exact stF (decF h0) (stF (decF (by rw [hlm];exact h1)) (stO _ hat (stC rfl (stO _ rfl (stO _ h (stO _ rfl (stO _ rfl (stO _ rfl (stO _ rfl (stO _ rfl (stF rfl (stT h5 (stF h6 hJ))))))))))))))
  |true=>
  cases h7:e !=7 with
  |false=>
   have hA:allF b.segs x e= [x]:=by unfold allF;rw [h5,h6,h7];rfl
   rw [hA]
   exact .top rfl (Evt.imp2 hN J6 fun n h hJ=>by
    rw [eqn]
    exact stF (decF h0) (stF (decF (by rw [hlm];exact h1)) (stO _ hat (stC rfl (stO _ rfl (stO _ h (stO _ rfl (stO _ rfl (stO _ rfl (stO _ rfl (stO _ rfl (stF rfl (stT h5 (stT h6 (stF h7 hJ)))))))))))))))
  |true=>
  have hml:(mars b.segs).length=b.segs.length:=by simp [mars]
  obtain ⟨g,hg,hxg,hA⟩:=QvT (x:=x) (e:=e) hm (by omega) (by omega) (by simpa using h5) (by simpa using h6) (by simpa using h7)
  rw [hA]
  have hwg:QbO (mars b.segs) x (mars b.segs).length=g:=QvI hm (by omega) (by omega) hg hxg
  have hM:=Qkb lb b (by omega)
  have hW:=Qtm lb b.segs.isEmpty (mars b.segs) x (by omega) hm (by omega) (by omega)
  rw [hwg] at hW
  have hge:g.isEmpty=false:=by
   cases g with
   |nil=>simp at hxg
   |cons a t=>rfl
  rw [hge] at hW
  have mem:=Qdv (mars b.segs) (mars b.segs).length (Nat.le_refl _)
  have ok:=Qc7 (mars b.segs) (mars b.segs).length (Nat.le_refl _)
  rw [List.take_length] at ok mem
  have hgl:g.length≤49:=by have:=ok.lens g hg;omega
  have L4:=(Evt.diag (Qxb lb 0 b.loc b.pn (b.ps.map peE) b.grp b.bn (b.segs.map sgE) b.rn (b.svs.map svE) b.lim x e (.int .i64 (QaB s.st e)) (.int .i64 0) (.list false (g.map icv)) (.tup [.int .i64 (QaB s.st e), .int .i64 0]) (sgE s) (.int .i64 s.st) (.int .i64 0) b.segs rfl g false rfl (by omega) g [] b.segs rfl rfl (fun i hi=>by have:=mem g hg i hi;omega)))
  refine .top rfl (Evt.imp2 (Evt.imp2 hN hM fun n a b=>And.intro a b) (Evt.imp2 hW L4 fun n a b=>And.intro a b) fun n ⟨h,h2⟩ ⟨h3,h4⟩=> ?_)
  rw [eqn]
  refine stF (decF h0) (stF (decF (by rw [hlm];exact h1)) (stO _ hat (stC rfl (stO _ rfl (stO _ h (stO _ rfl (stO _ rfl (stO _ rfl (stO _ rfl (stO _ rfl (stF rfl (stT h5 (stT h6 (stT h7 (stO _ h2 (stO _ h3 (stO _ rfl (stO _ rfl (stO _ rfl (stO _ rfl (stO _ rfl (stF rfl ?_))))))))))))))))))))))
  rw [Qpm]
  exact stC hall10 (stC hroom (stF hemp h4))
theorem Qr0 (an cn:Bool) (l:List Int) (hl:l.length≤1000000):Ret lb Qa3 [.list an (l.map icv), .list cn (l.map icv)] (.bool true):=
 .top rfl ((Evt.diag (Qd8 (enc:=icv) (l:=l) (P:=fun p t n k=>Qia lb n k an (l.map icv) cn (l.map icv) (p.length:Int)=some (.bool true)) (by omega)
  (.all fun n k=>by
   rw [Qjq]
   refine stF (decF (by simp)) ?_
   rw [Qrf])
  (fun p y t he q1 q2 q3 ih=>ih.mono fun n hi k hk=>by
   rw [Qjq]
   refine stT (decT q1) (stO _ q2 (stC rfl (stO _ rfl (stO _ q2 (stC rfl (stO _ rfl (stO _ (QaE ..) (stO _ (QaE ..) (stF (bneF rfl) ?_)))))))))
   rw [q3]
   exact hi k hk) l [] rfl)).mono fun n h=>by
  rw [QuF]
  exact stF (bneF rfl) h)
end Go.Proofs
