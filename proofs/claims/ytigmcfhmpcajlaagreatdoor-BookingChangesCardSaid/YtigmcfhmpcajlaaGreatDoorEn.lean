/- Chapter 35: the law BookingChanges on plain data, over the second machine. Conditions: as each says. -/
import Derived.Test.YtigmcfhmpcajlaaGreatDoorVk
import Derived.Test.YtigmcfhmpcajlaaGreatDoorEA
import Derived.Test.YtigmcfhmpcajlaaGreatDoorCc1
import Derived.Test.YtigmcfhmpcajlaaGreatDoorW35
set_option linter.unusedSimpArgs false
set_option linter.unusedVariables false
namespace Go.Proofs.K2
open Go.Am
theorem Qvk {α:Type} {f:Nat→α→List Fau}:∀(l:List α) (i:Nat),(∀x∈l,∀j,f j x= [])→idxF f i l= []
 | [],_,_=>rfl
 |x::l,i,h=>by
  show f i x++idxF f (i+1) l= []
  rw [h x (by simp) i,Qvk l (i+1) fun y hy=>h y (by simp [hy])]
  rfl
theorem Qw0 {α:Type} {f:Nat→α→List Fau}:∀(l:List α) (i:Nat),idxF f i l= []→∀x∈l,∃j,f j x= []
 | [],_,_,x,hx=>by simp at hx
 |y::l,i,h,x,hx=>by
  have h:f i y++idxF f (i+1) l= []:=h
  rw [List.append_eq_nil_iff] at h
  rcases List.mem_cons.1 hx with rfl|hx
  ·exact ⟨i,h.1⟩
  ·exact Qw0 l (i+1) h.2 x hx
theorem Qvq {e:Int} {all:List Int} {l l':List Sg} (hp:all.Pairwise (· < ·)) (h0:∀i∈all,0≤i) (h:chgF e all l=some l'):
  l'.length=l.length∧∀(k:Nat) s s',l[k]?=some s→l'[k]?=some s'→s'=s∨(s'=QcO s (QaB s.st e)∧QaB s.st e≠0):=by
 obtain ⟨q1,q2,q3⟩:=Qvi e all l l' hp h0 h
 refine ⟨q1,fun k s s' hk hk'=> ?_⟩
 by_cases hin:(k:Int)∈all
 ·obtain ⟨u,hu,a1,a2⟩:=q3 k hin
  rw [hk] at hu
  rw [hk'] at a2
  simp only [Option.some.injEq] at hu a2
  subst hu;subst a2
  exact .inr ⟨rfl,a1⟩
 ·have:=q2 k hin
  rw [hk,hk'] at this
  simp only [Option.some.injEq] at this
  exact .inl this
theorem QxM {l l':List Sg} (hl:l'.length=l.length) (h:∀(k:Nat) s s',l[k]?=some s→l'[k]?=some s'→s'.mar=s.mar):mars l'=mars l:=by
 refine List.ext_getElem? fun k=> ?_
 unfold mars
 rw [List.getElem?_map,List.getElem?_map]
 cases hk:l[k]? with
 |none=>
  have:l'[k]?=none:=by rw [List.getElem?_eq_none_iff] at hk⊢;rw [hl];exact hk
  rw [this]
 |some s=>
  have hlt:k<l'.length:=by rw [hl];exact (List.getElem?_eq_some_iff.1 hk).1
  have hk':l'[k]?=some l'[k]:=List.getElem?_eq_getElem hlt
  rw [hk']
  simp only [Option.map_some]
  rw [h k s _ hk hk']
theorem QwB {s:Sg} {n:Int} (h:QbX s= []) (h1:1≤n) (h2:n≤7):QbX (QcO s n)= []:=by
 unfold QbX at h⊢
 simp only [List.append_eq_nil_iff] at h⊢
 refine ⟨h.1, ?_⟩
 show Qbt (stOk n) 10= []
 have:stOk n=true:=by simp only [stOk,decide_eq_true_eq];omega
 rw [this];rfl
theorem Qun {e:Int} {all:List Int} {l l':List Sg} {loc:Bs} {ps:List Pe} {g lim:Int} {svs:List Sv} (hp:all.Pairwise (· < ·)) (h0:∀i∈all,0≤i) (h:chgF e all l=some l') (hb:QkG loc ps g l svs lim= []):QkG loc ps g l' svs lim= []:=by
 obtain ⟨hl,hr⟩:=Qvq hp h0 h
 have hm:mars l'=mars l:=QxM hl fun k s s' hk hk'=>by
  rcases hr k s s' hk hk' with rfl|⟨rfl,_⟩<;>rfl
 unfold QkG at hb⊢
 rw [hl,hm]
 simp only [List.append_eq_nil_iff] at hb⊢
 refine ⟨⟨hb.1.1,Qvk _ _ fun s' hs' j=> ?_⟩,hb.2⟩
 obtain ⟨k,hk'⟩:=List.mem_iff_getElem?.1 hs'
 have hlt:k<l.length:=by rw [←hl];exact (List.getElem?_eq_some_iff.1 hk').1
 obtain ⟨i,hi⟩:=Qw0 l 0 hb.1.2 _ (List.getElem_mem hlt)
 have hs:QbX l[k]= []:=by
  unfold segF at hi
  simpa using hi
 show (QbX s').map _= []
 have hfin:QbX s'= []:=by
  rcases hr k _ s' (List.getElem?_eq_getElem hlt) hk' with rfl|⟨rfl,hne⟩
  ·exact hs
  ·have:=Qqe l[k].st e
   exact QwB hs (by omega) (by omega)
 rw [hfin];rfl
theorem Qkz {b:Bk} (h:Qho b= []):marE (mars b.segs)=0∧b.segs.length≤24:=by
 unfold Qho QkG at h
 simp only [List.append_eq_nil_iff] at h
 have h1:=h.1.1.2
 have h2:=h.1.1.1.2
 refine ⟨?_, ?_⟩
 ·by_cases hm:marE (mars b.segs)=0
  ·exact hm
  ·rw [bneT hm] at h1;simp [Qay] at h1
 ·by_cases hl:(b.segs.length:Int)>24
  ·rw [decT hl] at h2;simp [Qay] at h2
  ·omega
structure Err (b:Bk) (x e d:Int) (n:Nat):Prop where
 aw:C 1 n Qal []=some (.bool true)
 s0:C 1 n Qaq [.agg (bkE b), .agg (bkE {b with bn:=false})]=some (.bool true)
 sn:C 1 n Qaq [noB,noB]=some (.bool true)
 hi:C 1 n Qa3 [.list true [], .list true []]=some (.bool true)
 hr:C 1 n Qap [.agg (bkE b), .int .i64 x, .int .i64 e]=some (.tup [noB, .list true [], .int .i64 d])
structure OkF (b:Bk) (x e:Int) (all:List Int) (l':List Sg) (n:Nat):Prop where
 aw:C 1 n Qal []=some (.bool true)
 s0:C 1 n Qaq [.agg (bkE b), .agg (bkE {b with bn:=false})]=some (.bool true)
 sF:C 1 n Qaq [.agg (bkE {b with bn:=false}), .agg (bkE {b with bn:=false})]=some (.bool true)
 s1:C 1 n Qaq [.agg (bkE {b with bn:=false,segs:=l'}), .agg (bkE {b with bn:=false,segs:=l'})]=some (.bool true)
 hi:C 1 n Qa3 [.list false (all.map icv), .list false (all.map icv)]=some (.bool true)
 hr:C 1 n Qap [.agg (bkE b), .int .i64 x, .int .i64 e]=some (chgV b.loc b.pn (b.ps.map peE) b.grp b.rn (b.svs.map svE) b.lim all false (some l'))
 hc:C 1 n Qai [.agg (bkE {b with bn:=false,segs:=l'})]=some (QaV [])
 hn:b.segs.length<n
 hs:b.segs.length≤1000000
 hl:l'.length=b.segs.length
 hm:∀(k:Nat) s s',b.segs[k]?=some s→l'[k]?=some s'→QcO s' s.st=s
theorem Err.tail {b:Bk} {x e d:Int} {n:Nat} (E:Err b x e d n):
  (optO (C 1 n Qap [.agg (bkE b), .int .i64 x, .int .i64 e]) fun r=>
  optO (CV.asT r) fun t1=>optO (t1[0]?) fun y=>optO (CV.asT r) fun t2=>optO (t2[1]?) fun z=>optO (CV.asT r) fun t3=>optO (t3[2]?) fun q=>optO (CV.asA y) fun c=>chkO (c.length==6) (
  optO (c[0]?) fun x0=>optO (c[1]?) fun x1=>optO (c[2]?) fun x2=>optO (c[3]?) fun x3=>optO (c[4]?) fun x4=>optO (c[5]?) fun x5=>
  optO (C 1 n Qaq [.agg [.str [], .list true [], .int .i64 0, .list true [], .list true [], .int .i64 0], .agg [x0,x1,x2,x3,x4,x5]]) fun r1=>optO (CV.asB r1) fun b1=>
  bif (!b1) then (some (.bool false)) else
  (optO (C 1 n Qa3 [.list true [],z]) fun r2=>optO (CV.asB r2) fun b2=>
  bif (!b2) then (some (.bool false)) else
  (optO (CV.asI .i64 q) fun i=>
  bif (d !=i) then (some (.bool false)) else
  (optO (C 1 n Qaq [.agg (bkE b), .agg (bkE {b with bn:=false})]) fun r3=>optO (CV.asB r3) fun b3=>
  bif (!b3) then (some (.bool false)) else
  (optO (C 1 n Qal []) fun r4=>some r4))))))=some (.bool true):=
 stO _ E.hr (stO _ rfl (stO _ rfl (stO _ rfl (stO _ rfl (stO _ rfl (stO _ rfl (stO _ rfl (stC rfl (stO _ rfl (stO _ rfl (stO _ rfl (stO _ rfl (stO _ rfl (stO _ rfl (stO _ E.sn (stO _ rfl (stF rfl (stO _ E.hi (stO _ rfl (stF rfl (stO _ (QaE ..) (stF (bneF rfl) (stO _ E.s0 (stO _ rfl (stF rfl (stO _ E.aw rfl))))))))))))))))))))))))))
theorem QwO (b:Bk) (x e:Int) (all:List Int) (z q r y x0 x1 x2 x3 x4 x5 v3:CV) (n:Nat) (hl:b.segs.length≤1000000) (aw:C 1 n Qal []=some (.bool true))
  (sF:C 1 n Qaq [.agg (bkE {b with bn:=false}), .agg (bkE {b with bn:=false})]=some (.bool true)) (hc:C 1 n Qai [.agg [x0,x1,x2,x3,x4,x5]]=some (QaV [])):
  ∀(t p R:List Sg),p++t=b.segs→R.length=b.segs.length→(∀k:Nat,k<p.length→R[k]?=b.segs[k]?)→(∀(k:Nat) s s',b.segs[k]?=some s→R[k]?=some s'→QcO s' s.st=s)→∀k,t.length<k→
  Qdf 1 n k b.loc b.pn (b.ps.map peE) b.grp b.bn (b.segs.map sgE) b.rn (b.svs.map svE) b.lim x e false (all.map icv) z q r y x0 x1 x2 x3 x4 x5 v3 (p.length:Int) (R.map sgE)=some (.bool true)
 | [],p,R,h,hR,hp,hm,k,hk=>by
  obtain ⟨k,rfl⟩:∃m,k=m+1:=⟨k-1,by simp at hk;omega⟩
  have hpl:p=b.segs:=by simpa using h
  have hRl:R=b.segs:=by
   refine List.ext_getElem? fun k=> ?_
   by_cases q:k<b.segs.length
   ·exact hp k (by rw [hpl];exact q)
   ·rw [List.getElem?_eq_none (by omega),List.getElem?_eq_none (by omega)]
  rw [QeL]
  refine stF (decF (by simp [hpl])) ?_
  rw [QjC]
  have htk:((R.map sgE).drop 0).take (b.segs.map sgE).length=b.segs.map sgE:=by
   rw [hRl,List.drop_zero,List.take_of_length_le (by simp)]
  refine stC (by simp [hR]) ?_
  rw [htk]
  exact stO _ sF (stO _ rfl (stT rfl (stO _ hc (stO _ rfl (stT rfl (stO _ aw rfl))))))
 |s::t,p,R,h,hR,hp,hm,k,hk=>by
  obtain ⟨k,rfl⟩:∃m,k=m+1:=⟨k-1,by simp at hk;omega⟩
  have hpl:p.length+(t.length+1)=b.segs.length:=by rw [←h];simp
  have hs:b.segs[p.length]?=some s:=by rw [←h];simp
  obtain ⟨s',hs'⟩:∃s',R[p.length]?=some s':=⟨_,List.getElem?_eq_getElem (by omega)⟩
  have hmend:=hm _ s s' hs hs'
  have hat:atL (b.segs.map sgE) (p.length:Int)=some (sgE s):=Qa9 (by rw [List.getElem?_map,hs];rfl)
  have hg:(R.map sgE)[0+((p.length:Nat):Int).toNat]?=some (sgE s'):=by rw [Int.toNat_natCast,Nat.zero_add,List.getElem?_map,hs'];rfl
  have hw:IntKind.wrap .i64 ((p.length:Int)+1)=((p++ [s]).length:Int):=by rw [QaD (by omega) (by omega)];simp
  rw [QeL]
  refine stT (decT (by simp;omega)) (stO _ hat (stC rfl (stO _ rfl (stC (by simp;omega) (stC rfl (stO _ hg (stC rfl ?_)))))))
  rw [hw,Qk5,Int.toNat_natCast,hmend]
  exact QwO b x e all z q r y x0 x1 x2 x3 x4 x5 v3 n hl aw sF hc t (p++ [s]) (R.set p.length s) (by rw [←h];simp) (by simpa using hR) (fun k hk=>by
   rw [List.getElem?_set]
   by_cases q:p.length=k
   ·subst q;rw [if_pos rfl,if_pos (by omega),hs]
   ·rw [if_neg q];exact hp k (by simp at hk;omega)) (fun k u u' hu hu'=>by
   rw [List.getElem?_set] at hu'
   by_cases q:p.length=k
   ·subst q
    rw [if_pos rfl,if_pos (by omega)] at hu'
    rw [hs] at hu
    cases hu;cases hu';rfl
   ·rw [if_neg q] at hu';exact hm k u u' hu hu') k (by simp at hk;omega)
theorem Qzy {b:Bk} {x e:Int} (wh jX v1 v2 v3:CV) (all:List Int) {l':List Sg} {n:Nat} (E:OkF b x e all l' n):Qdk 1 n b.loc b.pn (b.ps.map peE) b.grp b.bn (b.segs.map sgE) b.rn (b.svs.map svE) b.lim x e wh jX false (all.map icv) v1 v2 v3 (l'.map sgE)=some (.bool true):=by
 rw [Qju]
 have htk:((l'.map sgE).drop 0).take (b.segs.map sgE).length=l'.map sgE:=by
  rw [List.drop_zero,List.take_of_length_le (by simp [E.hl])]
 refine stO _ E.hr (stO _ rfl (stO _ rfl (stO _ rfl (stO _ rfl (stO _ rfl (stO _ rfl (stO _ rfl (stC rfl (stO _ rfl (stO _ rfl (stO _ rfl (stO _ rfl (stO _ rfl (stO _ rfl (stC (by simp [E.hl]) (?_))))))))))))))))
 rw [htk]
 refine stO _ E.s1 (stO _ rfl (stF rfl (stO _ E.hi (stO _ rfl (stF rfl (stO _ (QaE ..) (stF (bneF rfl) (stO _ E.s0 (stO _ rfl (stF rfl (?_)))))))))))
 exact QwO b x e all _ _ _ _ _ _ _ _ _ _ _ n E.hs E.aw E.sF E.hc b.segs [] l' rfl E.hl (fun k hk=>by simp at hk) E.hm n E.hn
theorem Qw8 (b:Bk) (x e:Int) (wh jX v1 v2 v3:CV) (all:List Int) (hall:all.length≤1000000):∀(t p:List Int) (acc:List Sg),p++t=all→acc.length=b.segs.length→(∀i∈t,0≤i∧i<(b.segs.length:Int))→
  Evt fun n=>(∀l',chgF e t acc=some l'→Qdk 1 n b.loc b.pn (b.ps.map peE) b.grp b.bn (b.segs.map sgE) b.rn (b.svs.map svE) b.lim x e wh jX false (all.map icv) v1 v2 v3 (l'.map sgE)=some (.bool true))→(chgF e t acc=none→Err b x e 18 n)→∀k,t.length<k→QbS 1 n k b.loc b.pn (b.ps.map peE) b.grp b.bn (b.segs.map sgE) b.rn (b.svs.map svE) b.lim x e wh jX false (all.map icv) v1 v2 v3 (p.length:Int) (acc.map sgE)=some (.bool true)
 | [],p,acc,h,hl,ht=> .all fun n hJ hE k hk=>by
  obtain ⟨k,rfl⟩:∃m,k=m+1:=⟨k-1,by simp at hk;omega⟩
  have hp:p=all:=by simpa using h
  rw [QeP]
  exact stF (decF (by rw [hp];simp)) (hJ acc rfl)
 |i::t,p,acc,h,hl,ht=>by
  obtain ⟨i0,i1⟩:=ht i (by simp)
  have hpl:p.length+(t.length+1)=all.length:=by rw [←h];simp
  obtain ⟨s,hs⟩:∃s,acc[i.toNat]?=some s:=⟨_,List.getElem?_eq_getElem (by omega)⟩
  refine Evt.imp2 (C_of (by kernel_rfl) (Qpn 1 s.st e)) (Qw8 b x e wh jX v1 v2 v3 all hall t (p++ [i]) (acc.set i.toNat (QcO s (QaB s.st e))) (by rw [←h];simp) (by simpa using hl) (fun j hj=>ht j (by simp [hj]))) fun n hn hi hJ hE k hk=> ?_
  obtain ⟨k,rfl⟩:∃m,k=m+1:=⟨k-1,by simp at hk;omega⟩
  have hw:IntKind.wrap .i64 ((p.length:Int)+1)=((p++ [i]).length:Int):=by rw [QaD (by omega) (by omega)];simp
  have hat:atL (all.map icv) (p.length:Int)=some (icv i):=Qa9 (by rw [List.getElem?_map,←h];simp)
  have hg:(acc.map sgE)[0+i.toNat]?=some (sgE s):=by rw [Nat.zero_add,List.getElem?_map,hs];rfl
  have hrng:(decide (0≤i)&&decide (i<(((b.segs.map sgE).length:Nat):Int)))=true:=by simp;omega
  have hF:chgF e (i::t) acc=(bif QaB s.st e==0 then none else chgF e t (acc.set i.toNat (QcO s (QaB s.st e)))):=by
   show (match acc[i.toNat]? with
    |some s=>bif QaB s.st e==0 then none else chgF e t (acc.set i.toNat (QcO s (QaB s.st e)))
    |none=>none)=_
   rw [hs]
  rw [hF] at hJ hE
  rw [QeP]
  refine stT (decT (by simp;omega)) (stO _ hat (stC rfl (stO _ rfl (stO i rfl (stC hrng (stO _ hg (stO _ rfl (stO _ hn ?_))))))))
  unfold QeG
  cases ha:QaB s.st e==0 with
  |true=>
   rw [ha] at hE
   exact stO _ rfl (stO _ rfl (stO _ rfl (stO _ rfl (stO _ rfl (stT rfl (hE rfl).tail)))))
  |false=>
   rw [ha] at hJ hE
   refine stO _ rfl (stO _ rfl (stO _ rfl (stO _ rfl (stO _ rfl (stF rfl (stO i rfl (stC hrng (stC rfl (stO _ hg (stC rfl ?_))))))))))
   rw [hw,Qk5]
   exact hi hJ hE k (by simp at hk;omega)
theorem Qvj (b:Bk) (x e:Int) (z q r y x0 x1 x2 x3 x4 x5:CV) (n:Nat) (hl:b.segs.length≤1000000) (aw:C 1 n Qal []=some (.bool true))
  (sF:C 1 n Qaq [.agg (bkE {b with bn:=false}), .agg (bkE {b with bn:=false})]=some (.bool true)) (hc:C 1 n Qai [.agg [x0,x1,x2,x3,x4,x5]]=some (QaV [])):
  ∀(t p R:List Sg),p++t=b.segs→R.length=b.segs.length→(∀k:Nat,k<p.length→R[k]?=b.segs[k]?)→(∀(k:Nat) s s',b.segs[k]?=some s→R[k]?=some s'→QcO s' s.st=s)→∀k,t.length<k→
  Qc2 1 n k b.loc b.pn (b.ps.map peE) b.grp b.bn (b.segs.map sgE) b.rn (b.svs.map svE) b.lim x e z q r y x0 x1 x2 x3 x4 x5 (p.length:Int) (R.map sgE)=some (.bool true)
 | [],p,R,h,hR,hp,hm,k,hk=>by
  obtain ⟨k,rfl⟩:∃m,k=m+1:=⟨k-1,by simp at hk;omega⟩
  have hpl:p=b.segs:=by simpa using h
  have hRl:R=b.segs:=by
   refine List.ext_getElem? fun k=> ?_
   by_cases q:k<b.segs.length
   ·exact hp k (by rw [hpl];exact q)
   ·rw [List.getElem?_eq_none (by omega),List.getElem?_eq_none (by omega)]
  rw [Qeu]
  refine stF (decF (by simp [hpl])) ?_
  rw [Qi7]
  have htk:((R.map sgE).drop 0).take (b.segs.map sgE).length=b.segs.map sgE:=by
   rw [hRl,List.drop_zero,List.take_of_length_le (by simp)]
  refine stC (by simp [hR]) ?_
  rw [htk]
  exact stO _ sF (stO _ rfl (stT rfl (stO _ hc (stO _ rfl (stT rfl (stO _ aw rfl))))))
 |s::t,p,R,h,hR,hp,hm,k,hk=>by
  obtain ⟨k,rfl⟩:∃m,k=m+1:=⟨k-1,by simp at hk;omega⟩
  have hpl:p.length+(t.length+1)=b.segs.length:=by rw [←h];simp
  have hs:b.segs[p.length]?=some s:=by rw [←h];simp
  obtain ⟨s',hs'⟩:∃s',R[p.length]?=some s':=⟨_,List.getElem?_eq_getElem (by omega)⟩
  have hmend:=hm _ s s' hs hs'
  have hat:atL (b.segs.map sgE) (p.length:Int)=some (sgE s):=Qa9 (by rw [List.getElem?_map,hs];rfl)
  have hg:(R.map sgE)[0+((p.length:Nat):Int).toNat]?=some (sgE s'):=by rw [Int.toNat_natCast,Nat.zero_add,List.getElem?_map,hs'];rfl
  have hw:IntKind.wrap .i64 ((p.length:Int)+1)=((p++ [s]).length:Int):=by rw [QaD (by omega) (by omega)];simp
  rw [Qeu]
  refine stT (decT (by simp;omega)) (stO _ hat (stC rfl (stO _ rfl (stC (by simp;omega) (stC rfl (stO _ hg (stC rfl ?_)))))))
  rw [hw,Qk5,Int.toNat_natCast,hmend]
  exact Qvj b x e z q r y x0 x1 x2 x3 x4 x5 n hl aw sF hc t (p++ [s]) (R.set p.length s) (by rw [←h];simp) (by simpa using hR) (fun k hk=>by
   rw [List.getElem?_set]
   by_cases q:p.length=k
   ·subst q;rw [if_pos rfl,if_pos (by omega),hs]
   ·rw [if_neg q];exact hp k (by simp at hk;omega)) (fun k u u' hu hu'=>by
   rw [List.getElem?_set] at hu'
   by_cases q:p.length=k
   ·subst q
    rw [if_pos rfl,if_pos (by omega)] at hu'
    rw [hs] at hu
    cases hu;cases hu';rfl
   ·rw [if_neg q] at hu';exact hm k u u' hu hu') k (by simp at hk;omega)
theorem Qzl {b:Bk} {x e:Int} (wh jX:CV) {l':List Sg} {n:Nat} (E:OkF b x e [x] l' n):Qc4 1 n b.loc b.pn (b.ps.map peE) b.grp b.bn (b.segs.map sgE) b.rn (b.svs.map svE) b.lim x e wh jX (l'.map sgE)=some (.bool true):=by
 rw [Qi3]
 have htk:((l'.map sgE).drop 0).take (b.segs.map sgE).length=l'.map sgE:=by
  rw [List.drop_zero,List.take_of_length_le (by simp [E.hl])]
 refine stO _ E.hr (stO _ rfl (stO _ rfl (stO _ rfl (stO _ rfl (stO _ rfl (stO _ rfl (stO _ rfl (stC rfl (stO _ rfl (stO _ rfl (stO _ rfl (stO _ rfl (stO _ rfl (stO _ rfl (stC (by simp [E.hl]) (?_))))))))))))))))
 rw [htk]
 refine stO _ E.s1 (stO _ rfl (stF rfl (stO _ E.hi (stO _ rfl (stF rfl (stO _ (QaE ..) (stF (bneF rfl) (stO _ E.s0 (stO _ rfl (stF rfl (?_)))))))))))
 exact Qvj b x e _ _ _ _ _ _ _ _ _ _ n E.hs E.aw E.sF E.hc b.segs [] l' rfl E.hl (fun k hk=>by simp at hk) E.hm n E.hn
theorem Qvb (b:Bk) (x e:Int) (wh jX:CV):∀(t p:List Int) (acc:List Sg),p++t= [x]→acc.length=b.segs.length→(∀i∈t,0≤i∧i<(b.segs.length:Int))→
  Evt fun n=>(∀l',chgF e t acc=some l'→Qc4 1 n b.loc b.pn (b.ps.map peE) b.grp b.bn (b.segs.map sgE) b.rn (b.svs.map svE) b.lim x e wh jX (l'.map sgE)=some (.bool true))→(chgF e t acc=none→Err b x e 18 n)→∀k,t.length<k→QbQ 1 n k b.loc b.pn (b.ps.map peE) b.grp b.bn (b.segs.map sgE) b.rn (b.svs.map svE) b.lim x e wh jX (p.length:Int) (acc.map sgE)=some (.bool true)
 | [],p,acc,h,hl,ht=> .all fun n hJ hE k hk=>by
  obtain ⟨k,rfl⟩:∃m,k=m+1:=⟨k-1,by simp at hk;omega⟩
  have hp:p= [x]:=by simpa using h
  rw [Qet]
  exact stF (decF (by rw [hp];simp)) (hJ acc rfl)
 |i::t,p,acc,h,hl,ht=>by
  obtain ⟨i0,i1⟩:=ht i (by simp)
  have hpl:p.length+(t.length+1)= [x].length:=by rw [←h];simp
  obtain ⟨s,hs⟩:∃s,acc[i.toNat]?=some s:=⟨_,List.getElem?_eq_getElem (by omega)⟩
  refine Evt.imp2 (C_of (by kernel_rfl) (Qpn 1 s.st e)) (Qvb b x e wh jX t (p++ [i]) (acc.set i.toNat (QcO s (QaB s.st e))) (by rw [←h];simp) (by simpa using hl) (fun j hj=>ht j (by simp [hj]))) fun n hn hi hJ hE k hk=> ?_
  obtain ⟨k,rfl⟩:∃m,k=m+1:=⟨k-1,by simp at hk;omega⟩
  have hw:IntKind.wrap .i64 ((p.length:Int)+1)=((p++ [i]).length:Int):=by rw [QaD (by simp at hpl;omega) (by simp at hpl;omega)];simp
  have hat:atL ([x].map icv) (p.length:Int)=some (icv i):=Qa9 (by rw [List.getElem?_map,←h];simp)
  have hg:(acc.map sgE)[0+i.toNat]?=some (sgE s):=by rw [Nat.zero_add,List.getElem?_map,hs];rfl
  have hrng:(decide (0≤i)&&decide (i<(((b.segs.map sgE).length:Nat):Int)))=true:=by simp;omega
  have hF:chgF e (i::t) acc=(bif QaB s.st e==0 then none else chgF e t (acc.set i.toNat (QcO s (QaB s.st e)))):=by
   show (match acc[i.toNat]? with
    |some s=>bif QaB s.st e==0 then none else chgF e t (acc.set i.toNat (QcO s (QaB s.st e)))
    |none=>none)=_
   rw [hs]
  rw [hF] at hJ hE
  rw [Qet]
  refine stT (decT (by simp at hpl;omega)) (stO _ hat (stC rfl (stO _ rfl (stO i rfl (stC hrng (stO _ hg (stO _ rfl (stO _ hn ?_))))))))
  unfold QeG
  cases ha:QaB s.st e==0 with
  |true=>
   rw [ha] at hE
   exact stO _ rfl (stO _ rfl (stO _ rfl (stO _ rfl (stO _ rfl (stT rfl (hE rfl).tail)))))
  |false=>
   rw [ha] at hJ hE
   refine stO _ rfl (stO _ rfl (stO _ rfl (stO _ rfl (stO _ rfl (stF rfl (stO i rfl (stC hrng (stC rfl (stO _ hg (stC rfl ?_))))))))))
   rw [hw,Qk5]
   exact hi hJ hE k (by simp at hk;omega)
theorem QzU {f:FuncId} {args:List CV} {r:CV} (hL:L 1 f=none) (h:Evt fun n=>top 1 n f args=some r):Evt fun n=>C 1 n f args=some r:=by
 obtain ⟨N,hN⟩:=h
 refine ⟨N+1,fun n hn=> ?_⟩
 obtain ⟨m,rfl⟩:∃m,n=m+1:=⟨n-1,by omega⟩
 rw [QpD 1 m f args hL]
 exact hN m (by omega)
theorem QoW {loc:Bs} {pn:Bool} {ps:List (List CV)} {g:Int} {l:List Sg} {rn:Bool} {rs:List (List CV)} {lim x e:Int} (h:x<0∨x≥(l.length:Int)):QeT loc pn ps g l rn rs lim x e= .tup [noB, .list true [], .int .i64 7]:=by
 unfold QeT
 rw [if_pos h]
theorem Qwk {loc:Bs} {pn:Bool} {ps:List (List CV)} {g:Int} {l:List Sg} {rn:Bool} {rs:List (List CV)} {lim x e:Int} {s:Sg} (x0:0≤x) (x1:x<(l.length:Int)) (hs:l[x.toNat]?=some s):
  QeT loc pn ps g l rn rs lim x e=if QaB s.st e=0 then .tup [noB, .list true [], .int .i64 10] else chgV loc pn ps g rn rs lim (allF l x e) false (chgF e (allF l x e) l):=by
 unfold QeT
 rw [if_neg (by omega),hs]
theorem Qlf {b:Bk} {x e d:Int} (h1:b.ps.length≤1000000) (h2:b.segs.length≤49) (h3:b.svs.length≤1000000) (hm:marE (mars b.segs)=0)
  (hv:QeT b.loc b.pn (b.ps.map peE) b.grp b.segs b.rn (b.svs.map svE) b.lim x e= .tup [noB, .list true [], .int .i64 d]):Evt (Err b x e d):=by
 have a1:=C_of (by kernel_rfl) Ql5
 have a2:=C_of (by kernel_rfl) (Qfs 1 b {b with bn:=false} h1 (by omega) h3)
 rw [show QnV b {b with bn:=false}=true from Qhh b] at a2
 have a3:=C_of (by kernel_rfl) (Qfs 1 ⟨[],true, [],0,true, [],true, [],0⟩ ⟨[],true, [],0,true, [],true, [],0⟩ (by simp) (by simp) (by simp))
 rw [Qhh] at a3
 have a4:=C_of (by kernel_rfl) (Qr0 1 true true [] (by simp))
 have a5:=C_of (by kernel_rfl) (Qk9 1 b x e h2 hm)
 rw [hv] at a5
 exact (a1.and (a2.and (a3.and (a4.and a5)))).mono fun n ⟨q1,q2,q3,q4,q5⟩=>⟨q1,q2,q3,q4,q5⟩
theorem QwH {b:Bk} {x e:Int} {all:List Int} {l':List Sg} (ok:SmallOk b) (hk:Qho b= []) (hall:all.length≤1000000) (hp:all.Pairwise (· < ·)) (h0:∀i∈all,0≤i) (hF:chgF e all b.segs=some l')
  (hv:QeT b.loc b.pn (b.ps.map peE) b.grp b.segs b.rn (b.svs.map svE) b.lim x e=chgV b.loc b.pn (b.ps.map peE) b.grp b.rn (b.svs.map svE) b.lim all false (some l')):Evt (OkF b x e all l'):=by
 obtain ⟨hm,h24⟩:=Qkz hk
 obtain ⟨hl,hr⟩:=Qvq hp h0 hF
 have mend:∀(k:Nat) s s',b.segs[k]?=some s→l'[k]?=some s'→QcO s' s.st=s:=fun k s s' q1 q2=>by
  rcases hr k s s' q1 q2 with rfl|⟨rfl,_⟩<;>rfl
 have hps:b.ps.length≤1000000:=by have:=ok.ps;omega
 have hsv:b.svs.length≤1000000:=by have:=ok.svs;omega
 have a1:=C_of (by kernel_rfl) Ql5
 have a2:=C_of (by kernel_rfl) (Qfs 1 b {b with bn:=false} hps (by omega) hsv)
 rw [show QnV b {b with bn:=false}=true from Qhh b] at a2
 have a3:=C_of (by kernel_rfl) (Qfs 1 {b with bn:=false} {b with bn:=false} hps (show b.segs.length≤1000000 by omega) hsv)
 rw [Qhh] at a3
 have a4:=C_of (by kernel_rfl) (Qfs 1 {b with bn:=false,segs:=l'} {b with bn:=false,segs:=l'} hps (show l'.length≤1000000 by omega) hsv)
 rw [Qhh] at a4
 have a5:=C_of (by kernel_rfl) (Qr0 1 false false all hall)
 have a6:=C_of (by kernel_rfl) (Qk9 1 b x e (by omega) hm)
 rw [hv] at a6
 have ok':SmallOk {b with bn:=false,segs:=l'}:=by
  refine ⟨ok.ps,show l'.length≤60 by omega,ok.svs,ok.loc,ok.pe,fun s' hs'=> ?_,ok.sv⟩
  obtain ⟨k,hk'⟩:=List.mem_iff_getElem?.1 hs'
  have hlt:k<b.segs.length:=by rw [←hl];exact (List.getElem?_eq_some_iff.1 hk').1
  have hsg:=ok.sg _ (List.getElem_mem hlt)
  rcases hr k _ s' (List.getElem?_eq_getElem hlt) hk' with rfl|⟨rfl,_⟩<;>exact hsg
 have hk':Qho {b with bn:=false,segs:=l'}= []:=Qun hp h0 hF hk
 have a7:=C_of (by kernel_rfl) (Qnh 1 ok').2
 rw [hk'] at a7
 exact ((Evt.ge (b.segs.length+1)).and (a1.and (a2.and (a3.and (a4.and (a5.and (a6.and a7))))))).mono fun n ⟨q0,q1,q2,q3,q4,q5,q6,q7⟩=>⟨q1,q2,q3,q4,q5,q6,q7,q0,by omega,hl,mend⟩
theorem QAw {b:Bk} {x e:Int} (wh jX v1 v2 v3:CV) (all:List Int) {n:Nat} (hbf:b.bn=false) (hne:b.segs≠ []) (hl:b.segs.length≤49) (h:QbS 1 n n b.loc b.pn (b.ps.map peE) b.grp b.bn (b.segs.map sgE) b.rn (b.svs.map svE) b.lim x e wh jX false (all.map icv) v1 v2 v3 0 (b.segs.map sgE)=some (.bool true)):
  Qdg 1 n b.loc b.pn (b.ps.map peE) b.grp b.bn (b.segs.map sgE) b.rn (b.svs.map svE) b.lim x e wh jX false (all.map icv) v1 v2 v3=some (.bool true):=by
 obtain ⟨a,t,hq⟩:∃a t,b.segs.map sgE=a::t:=by
  cases hs:b.segs with
  |nil=>exact absurd hs hne
  |cons a t=>exact ⟨_,_,rfl⟩
 have h10:(b.segs.map sgE).all (·.length==10)=true:=by simp [sgE]
 have hr:room (b.segs.map sgE).length 112=true:=Qdj (by simp;omega)
 rw [hbf,hq] at h⊢
 rw [hq] at h10 hr
 rw [Qjt]
 exact stC h10 (stC hr h)
theorem Qz2 {b:Bk} {x e:Int} (wh jX v1 v2 v3:CV) (all:List Int) (ok:SmallOk b) (hk:Qho b= []) (hall:all.length≤1000000) (hp:(all:List Int).Pairwise (· < ·)) (h0:∀i∈(all:List Int),0≤i∧i<(b.segs.length:Int))
  (hv:QeT b.loc b.pn (b.ps.map peE) b.grp b.segs b.rn (b.svs.map svE) b.lim x e=chgV b.loc b.pn (b.ps.map peE) b.grp b.rn (b.svs.map svE) b.lim all false (chgF e all b.segs)):
  Evt fun n=>QbS 1 n n b.loc b.pn (b.ps.map peE) b.grp b.bn (b.segs.map sgE) b.rn (b.svs.map svE) b.lim x e wh jX false (all.map icv) v1 v2 v3 0 (b.segs.map sgE)=some (.bool true):=by
 obtain ⟨hm,h24⟩:=Qkz hk
 have run:=Qw8 b x e wh jX v1 v2 v3 all hall all [] b.segs rfl rfl h0
 cases hF:chgF e all b.segs with
 |none=>
  rw [hF] at hv
  have hps:b.ps.length≤1000000:=by have:=ok.ps;omega
  have hsv:b.svs.length≤1000000:=by have:=ok.svs;omega
  exact ((run.and (Qlf hps (by omega) hsv hm hv)).and (Evt.ge (all.length+1))).mono fun n ⟨⟨r,E⟩,h2⟩=>r (fun l' h=>by rw [hF] at h;cases h) (fun _=>E) n h2
 |some l'=>
  rw [hF] at hv
  exact ((run.and (QwH ok hk hall hp (fun i hi=>(h0 i hi).1) hF hv)).and (Evt.ge (all.length+1))).mono fun n ⟨⟨r,E⟩,h2⟩=>r (fun l2 h=>by rw [hF] at h;cases h;exact Qzy wh jX v1 v2 v3 all E) (fun h=>by rw [hF] at h;cases h) n h2
theorem QzY {b:Bk} {x e:Int} (wh jX:CV) {n:Nat} (hbf:b.bn=false) (hne:b.segs≠ []) (hl:b.segs.length≤49) (h:QbQ 1 n n b.loc b.pn (b.ps.map peE) b.grp b.bn (b.segs.map sgE) b.rn (b.svs.map svE) b.lim x e wh jX 0 (b.segs.map sgE)=some (.bool true)):
  QbP 1 n b.loc b.pn (b.ps.map peE) b.grp b.bn (b.segs.map sgE) b.rn (b.svs.map svE) b.lim x e wh jX=some (.bool true):=by
 obtain ⟨a,t,hq⟩:∃a t,b.segs.map sgE=a::t:=by
  cases hs:b.segs with
  |nil=>exact absurd hs hne
  |cons a t=>exact ⟨_,_,rfl⟩
 have h10:(b.segs.map sgE).all (·.length==10)=true:=by simp [sgE]
 have hr:room (b.segs.map sgE).length 112=true:=Qdj (by simp;omega)
 rw [hbf,hq] at h⊢
 rw [hq] at h10 hr
 rw [Qi5]
 exact stC h10 (stC hr h)
theorem QyI {b:Bk} {x e:Int} (wh jX:CV) (ok:SmallOk b) (hk:Qho b= []) (hp:([x]:List Int).Pairwise (· < ·)) (h0:∀i∈([x]:List Int),0≤i∧i<(b.segs.length:Int))
  (hv:QeT b.loc b.pn (b.ps.map peE) b.grp b.segs b.rn (b.svs.map svE) b.lim x e=chgV b.loc b.pn (b.ps.map peE) b.grp b.rn (b.svs.map svE) b.lim [x] false (chgF e [x] b.segs)):
  Evt fun n=>QbQ 1 n n b.loc b.pn (b.ps.map peE) b.grp b.bn (b.segs.map sgE) b.rn (b.svs.map svE) b.lim x e wh jX 0 (b.segs.map sgE)=some (.bool true):=by
 obtain ⟨hm,h24⟩:=Qkz hk
 have run:=Qvb b x e wh jX [x] [] b.segs rfl rfl h0
 cases hF:chgF e [x] b.segs with
 |none=>
  rw [hF] at hv
  have hps:b.ps.length≤1000000:=by have:=ok.ps;omega
  have hsv:b.svs.length≤1000000:=by have:=ok.svs;omega
  exact ((run.and (Qlf hps (by omega) hsv hm hv)).and (Evt.ge ([x].length+1))).mono fun n ⟨⟨r,E⟩,h2⟩=>r (fun l' h=>by rw [hF] at h;cases h) (fun _=>E) n h2
 |some l'=>
  rw [hF] at hv
  exact ((run.and (QwH ok hk (by simp) hp (fun i hi=>(h0 i hi).1) hF hv)).and (Evt.ge ([x].length+1))).mono fun n ⟨⟨r,E⟩,h2⟩=>r (fun l2 h=>by rw [hF] at h;cases h;exact Qzl wh jX E) (fun h=>by rw [hF] at h;cases h) n h2
theorem bookingChanges_ok (b:Bk) (hbn:b.bn=true→b.segs= []) (x e:Int):Evt fun n=>C 1 n Qaa [.agg (bkE b), .int .i64 x, .int .i64 e]=some (.bool true):=by
 refine QzU rfl ?_
 have eqn:∀n,top 1 n Qaa [.agg (bkE b), .int .i64 x, .int .i64 e]=_:=fun n=>Qlk 1 n b.loc b.pn (b.ps.map peE) b.grp b.bn (b.segs.map sgE) b.rn (b.svs.map svE) b.lim x e
 have hA:=C_of (by kernel_rfl) Ql5
 have hS:=C_of (by kernel_rfl) (Qxe 1 b)
 cases hb:Qne b with
 |false=>
  rw [hb] at hS
  exact (hA.and hS).mono fun n ⟨h,c⟩=>by rw [eqn];exact stO _ c (stO _ (QaP _) (stT rfl (stO _ h rfl)))
 |true=>
 rw [hb] at hS
 have ok:=Qx8 hb
 have hps:b.ps.length≤1000000:=by have:=ok.ps;omega
 have hsv:b.svs.length≤1000000:=by have:=ok.svs;omega
 have hR:=C_of (by kernel_rfl) (Qnh 1 ok).2
 cases hk:Qho b with
 |cons f r=>
  rw [hk] at hR
  exact (hA.and (hS.and hR)).mono fun n ⟨h,c,d⟩=>by rw [eqn];exact stO _ c (stO _ (QaP _) (stF rfl (stO _ d (stO _ rfl (stT (decT (by simp)) (stO _ h rfl))))))
 |nil=>
 rw [hk] at hR
 obtain ⟨hm,h24⟩:=Qkz hk
 have hSR:=hS.and hR
 have hall10:(b.segs.map sgE).all (·.length==10)=true:=by simp [sgE]
 have hroom0:room (0+(b.segs.map sgE).length) 112=true:=Qdj (by simp;omega)
 by_cases h0:x<0
 ·exact (hSR.and (Qlf (e:=e) hps (by omega) hsv hm (QoW (.inl h0)))).mono fun n ⟨⟨c,d⟩,E⟩=>by rw [eqn];exact stO _ c (stO _ (QaP _) (stF rfl (stO _ d (stO _ rfl (stF (decF (by simp)) (stC hall10 (stC hroom0 (stT (decT h0) E.tail))))))))
 by_cases h1':x≥(b.segs.length:Int)
 ·have h1:x≥(((b.segs.map sgE).length:Nat):Int):=by simpa using h1'
  exact (hSR.and (Qlf (e:=e) hps (by omega) hsv hm (QoW (.inr h1')))).mono fun n ⟨⟨c,d⟩,E⟩=>by rw [eqn];exact stO _ c (stO _ (QaP _) (stF rfl (stO _ d (stO _ rfl (stF (decF (by simp)) (stC hall10 (stC hroom0 (stF (decF h0) (stT (decT h1) E.tail)))))))))
 have h1:¬x≥(((b.segs.map sgE).length:Nat):Int):=by simpa using h1'
 obtain ⟨s,hs⟩:∃s,b.segs[x.toNat]?=some s:=⟨_,List.getElem?_eq_getElem (by omega)⟩
 have hne:b.segs≠ []:=fun q=>by rw [q] at hs;simp at hs
 have hbf:b.bn=false:=by
  cases q:b.bn with
  |false=>rfl
  |true=>exact absurd (hbn q) hne
 have hat:atL (b.segs.map sgE) x=some (sgE s):=by
  obtain ⟨k,rfl⟩:∃k:Nat,x=k:=⟨x.toNat,by omega⟩
  exact Qa9 (by rw [List.getElem?_map];simp at hs;rw [hs];rfl)
 have hN:=C_of (by kernel_rfl) (Qpn 1 s.st e)
 have hv:=Qwk (loc:=b.loc) (pn:=b.pn) (ps:=b.ps.map peE) (g:=b.grp) (rn:=b.rn) (rs:=b.svs.map svE) (lim:=b.lim) (e:=e) (by omega) (by omega) hs
 by_cases ha:QaB s.st e=0
 ·rw [if_pos ha] at hv
  rw [show QeG s.st e= .tup [.int .i64 0, .int .i64 10] from by unfold QeG;rw [ha];rfl] at hN
  exact (hSR.and (hN.and (Qlf hps (by omega) hsv hm hv))).mono fun n ⟨⟨c,d⟩,hn,E⟩=>by rw [eqn];exact stO _ c (stO _ (QaP _) (stF rfl (stO _ d (stO _ rfl (stF (decF (by simp)) (stC hall10 (stC hroom0 (stF (decF h0) (stF (decF h1) (stO _ hat (stC rfl (stO _ rfl (stO _ hn (stO _ rfl (stO _ rfl (stO _ rfl (stO _ rfl (stO _ rfl (stT rfl (stO _ E.hr (stO _ rfl (stO _ rfl (stO _ rfl (stO _ rfl (stO _ rfl (stO _ rfl (stO _ rfl (stC rfl (stO _ rfl (stO _ rfl (stO _ rfl (stO _ rfl (stO _ rfl (stO _ rfl (stO _ E.sn (stO _ rfl (stF rfl (stO _ E.hi (stO _ rfl (stF rfl (stO _ (QaE ..) (stO _ (QaE ..) (stF (bneF rfl) (stO _ E.s0 (stO _ rfl (stF rfl (stO _ (QaE ..) (stT rfl (stO _ E.aw rfl)))))))))))))))))))))))))))))))))))))))))))))))))
 rw [if_neg ha] at hv
 rw [show QeG s.st e= .tup [.int .i64 (QaB s.st e), .int .i64 0] from by unfold QeG;rw [beqF ha];rfl] at hN
 have hx:∀i∈ [x],0≤i∧i<(b.segs.length:Int):=fun i hi=>by simp at hi;omega
 have kind:allF b.segs x e= [x]→Evt fun n=>QbP 1 n b.loc b.pn (b.ps.map peE) b.grp b.bn (b.segs.map sgE) b.rn (b.svs.map svE) b.lim x e (.int .i64 (QaB s.st e)) (.int .i64 0)=some (.bool true):=fun hA=>by
  rw [hA] at hv
  exact (QyI (.int .i64 (QaB s.st e)) (.int .i64 0) ok hk (by simp) hx hv).mono fun n h=>QzY _ _ hbf hne (by omega) h
 cases h5:e !=5 with
 |false=>
  exact (hSR.and (hN.and (kind (by unfold allF;rw [h5];rfl)))).mono fun n ⟨⟨c,d⟩,hn,hJ⟩=>by rw [eqn];exact stO _ c (stO _ (QaP _) (stF rfl (stO _ d (stO _ rfl (stF (decF (by simp)) (stC hall10 (stC hroom0 (stF (decF h0) (stF (decF h1) (stO _ hat (stC rfl (stO _ rfl (stO _ hn (stO _ rfl (stO _ rfl (stO _ rfl (stO _ rfl (stO _ rfl (stF rfl (stF h5 hJ))))))))))))))))))))
 |true=>
 cases h6:e !=6 with
 |false=>
  exact (hSR.and (hN.and (kind (by unfold allF;rw [h5,h6];rfl)))).mono fun n ⟨⟨c,d⟩,hn,hJ⟩=>by rw [eqn];exact stO _ c (stO _ (QaP _) (stF rfl (stO _ d (stO _ rfl (stF (decF (by simp)) (stC hall10 (stC hroom0 (stF (decF h0) (stF (decF h1) (stO _ hat (stC rfl (stO _ rfl (stO _ hn (stO _ rfl (stO _ rfl (stO _ rfl (stO _ rfl (stO _ rfl (stF rfl (stT h5 (stF h6 hJ)))))))))))))))))))))
 |true=>
 cases h7:e !=7 with
 |false=>
  exact (hSR.and (hN.and (kind (by unfold allF;rw [h5,h6,h7];rfl)))).mono fun n ⟨⟨c,d⟩,hn,hJ⟩=>by rw [eqn];exact stO _ c (stO _ (QaP _) (stF rfl (stO _ d (stO _ rfl (stF (decF (by simp)) (stC hall10 (stC hroom0 (stF (decF h0) (stF (decF h1) (stO _ hat (stC rfl (stO _ rfl (stO _ hn (stO _ rfl (stO _ rfl (stO _ rfl (stO _ rfl (stO _ rfl (stF rfl (stT h5 (stT h6 (stF h7 hJ))))))))))))))))))))))
 |true=>
 have hml:(mars b.segs).length=b.segs.length:=by simp [mars]
 obtain ⟨g,hf⟩:=QlF (l:=mars b.segs) (x:=x) (by omega) (by omega)
 have hA':allF b.segs x e=g:=by unfold allF;rw [h5,h6,h7];simp only [Bool.and_self,cond_true];rw [if_pos hm,hf]
 have hV:QlH (mars b.segs) x= .tup [.list false (g.map icv), .int .i64 0]:=by unfold QlH;rw [if_pos hm,hf]
 have hM:=C_of (by kernel_rfl) (Qml 1 b.bn b.segs (by omega))
 have hW:=C_of (by kernel_rfl) (Qrb 1 false (mars b.segs) x (by omega))
 rw [hV] at hW
 have hmem:=List.mem_of_find?_eq_some hf
 have gok:=Qc7 (mars b.segs) (mars b.segs).length (Nat.le_refl _)
 have mem:=Qdv (mars b.segs) (mars b.segs).length (Nat.le_refl _)
 have asc:=QpB (mars b.segs) (mars b.segs).length (Nat.le_refl _)
 rw [List.take_length] at gok mem asc
 have hgl:g.length≤49:=by have:=gok.lens g hmem;omega
 have hSo:=C_of (by kernel_rfl) (QqF 1 false g hgl (asc g hmem))
 have hge:(g.map icv).isEmpty=false:=by
  obtain ⟨a,t,rfl,_⟩:=gok.heads g hmem
  rfl
 have hnk:bytesOf (bif QjX (.list false (g.map icv)) then [] else [[]])=some []:=by rw [Qwj g (by omega)];rfl
 rw [hA'] at hv
 have hJ:=(Qz2 (.int .i64 (QaB s.st e)) (.int .i64 0) (.list false (g.map icv)) (.int .i64 0) (.list false (g.map icv)) g ok hk (by omega) (Qib hmem) (fun i hi=>by have:=mem g hmem i hi;omega) hv).mono fun n h=>QAw _ _ _ _ _ g hbf hne (by omega) h
 exact (hSR.and (hN.and (hM.and (hW.and (hSo.and hJ))))).mono fun n ⟨⟨c,d⟩,hn,h2,h3,h4,hJ⟩=>by
  rw [eqn]
  refine stO _ c (stO _ (QaP _) (stF rfl (stO _ d (stO _ rfl (stF (decF (by simp)) (stC hall10 (stC hroom0 (stF (decF h0) (stF (decF h1) (stO _ hat (stC rfl (stO _ rfl (stO _ hn (stO _ rfl (stO _ rfl (stO _ rfl (stO _ rfl (stO _ rfl (stF rfl (stT h5 (stT h6 (stT h7 (stO _ h2 (stO _ h3 (stO _ rfl (stO _ rfl (stO _ rfl (stO _ rfl (stO _ rfl (stT rfl (stC rfl (stO _ hnk ?_))))))))))))))))))))))))))))))))
  show optO (C 1 n QcK [.list (g.map icv).isEmpty (g.map icv)]) (fun r=>Qdg 1 n b.loc b.pn (b.ps.map peE) b.grp b.bn (b.segs.map sgE) b.rn (b.svs.map svE) b.lim x e (.int .i64 (QaB s.st e)) (.int .i64 0) (g.map icv).isEmpty (g.map icv) (.list false (g.map icv)) (.int .i64 0) (.list false (g.map icv)))=_
  rw [hge]
  exact stO _ h4 hJ
end Go.Proofs.K2
