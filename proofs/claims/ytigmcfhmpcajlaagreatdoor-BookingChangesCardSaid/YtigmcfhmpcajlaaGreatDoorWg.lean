/- The walk of marry.groups: slices grow inside a slice of its own. Conditions: as each says. -/
import Derived.Test.YtigmcfhmpcajlaaGreatDoorProg
import Derived.Test.YtigmcfhmpcajlaaGreatDoorDf
import Derived.ProofKit
import Derived.Below
import Derived.OwnWalk
import Derived.Laws.AppendOwn
import Derived.Laws.OwnMore
import Derived.Maps.AppendAt
import Derived.OneCell
import Derived.LoopN
import Derived.WalkKit
import Derived.LoopTactic
import Derived.Laws.NewBlocks
import Derived.Outline
import Derived.OpenShut
import Derived.Shelf.Vars
namespace Go.Proofs
open Go.RowKit
theorem Qvz (l:List Int) (n:Int):Qa6 (l++ [n])=stepG (Qa6 l) n:=by simp [Qa6]
def Nest (W:World) (base:Nat) (TO TI:TypeId) (v:Value) (gs:List (List Int)):Prop:=
 ∃vs:List Value,W.ownsRow base TO 1 v gs.length vs∧∀(j:Nat) u xs,vs[j]?=some u→gs[j]?=some xs→∃b cap,u= .slice (some ⟨b,0,none⟩) xs.length cap∧W.ownsRow base TI 1 u xs.length (xs.map (Value.int .i64))
theorem QpF {W:World} {base:Nat} {e e':TypeId} {g g' n n' c c':Nat} {xs xs':List Value} (h:W.ownsRow base e 1 (.slice (some ⟨g,0,none⟩) n c) n xs) (h':W.ownsRow base e' 1 (.slice (some ⟨g',0,none⟩) n' c') n' xs') (he:e≠e'):g≠g':=by
 rintro rfl
 rcases h.2 with ⟨q,_⟩|⟨g1,c1,cur,q,_,hg,_⟩
 ·simp at q
 ·rcases h'.2 with ⟨q',_⟩|⟨g2,c2,cur',q',_,hg',_⟩
  ·simp at q'
  ·simp only [Value.slice.injEq,Option.some.injEq,Addr.mk.injEq,and_true,true_and] at q q'
   obtain ⟨rfl,_⟩:=q
   obtain ⟨rfl,_⟩:=q'
   rw [hg] at hg'
   simp only [Option.some.injEq,Obj.cells.injEq] at hg'
   exact he hg'.2.1
theorem Qy8 {W:World} {base:Nat} {e:TypeId} {g g' n n' c c':Nat} {x y:Value} {xs xs':List Value} (h:W.ownsRow base e 1 (.slice (some ⟨g,0,none⟩) n c) n (x::xs)) (h':W.ownsRow base e 1 (.slice (some ⟨g',0,none⟩) n' c') n' (y::xs')) (he:x≠y):g≠g':=by
 rintro rfl
 have l1:=h.1
 have l2:=h'.1
 have c1:=h.cellAt 0 (by simp at l1;omega)
 have c2:=h'.cellAt 0 (by simp at l2;omega)
 rw [c1] at c2
 simp at c2
 exact he c2
theorem QdE (a:List (List Int)) (g:List Int) (i:Int):Qjl (a++ [g]) i=a++ [g++ [i]]:=by simp [Qjl]
theorem QcG {l:List Int} {k:Nat} {x:Int} (hx:l[k]?=some x):Qa6 (l.take (k+1))=stepG (Qa6 (l.take k)) x:=by
 rw [List.take_add_one,hx];exact Qvz _ _
theorem Qd7 (l:List Int):∀k,k≤l.length→(Qa6 (l.take k)).1=k
 |0,_=>rfl
 |k+1,h=>by
  obtain ⟨x,hx⟩:∃x,l[k]?=some x:=⟨_,List.getElem?_eq_getElem (by omega)⟩
  rw [QcG hx]
  show (Qa6 (l.take k)).1+1=_
  rw [Qd7 l k (by omega)];simp
theorem QlU {l:List Int} {k:Nat} {x:Int} (hx:l[k]?=some x):(Qa6 (l.take (k+1))).2.1=x:=by rw [QcG hx];rfl
structure GOk (k:Nat) (gs:List (List Int)):Prop where
 heads:∀g∈gs,∃h t,g=h::t∧0≤h∧h<(k:Int)
 apart:gs.Pairwise fun a b=>a.head?≠b.head?
 some:0<k→gs≠ []
 len:gs.length≤k
 lens:∀g∈gs,g.length≤k
theorem GOk.nil:GOk 0 []:=⟨by simp,by simp,by simp,by simp,by simp⟩
theorem GOk.add {k:Nat} {gs:List (List Int)} (h:GOk k gs):GOk (k+1) (gs++ [[(k:Int)]]):=by
 refine ⟨fun g hg=> ?_, ?_,by simp,by simp;exact h.len,fun g hg=> ?_⟩
 ·rcases List.mem_append.1 hg with hg|hg
  ·obtain ⟨a,t,rfl,h1,h2⟩:=h.heads g hg;exact ⟨a,t,rfl,h1,by omega⟩
  ·simp only [List.mem_singleton] at hg;subst hg;exact ⟨_,_,rfl,by omega,by omega⟩
 ·refine List.pairwise_append.2 ⟨h.apart,by simp,fun a ha b hb=> ?_⟩
  simp only [List.mem_singleton] at hb;subst hb
  obtain ⟨a,t,rfl,h1,h2⟩:=h.heads a ha
  simp;omega
 ·rcases List.mem_append.1 hg with hg|hg
  ·have:=h.lens g hg;omega
  ·simp only [List.mem_singleton] at hg;subst hg;simp
theorem GOk.more {k:Nat} {a:List (List Int)} {g:List Int} (h:GOk k (a++ [g])) (i:Int):GOk (k+1) (a++ [g++ [i]]):=by
 obtain ⟨x,t,rfl,h1,h2⟩:=h.heads g (by simp)
 obtain ⟨p1,p2,p3⟩:=List.pairwise_append.1 h.apart
 refine ⟨fun g' hg=> ?_, ?_,by simp, ?_,fun g' hg=> ?_⟩
 ·rcases List.mem_append.1 hg with hg|hg
  ·obtain ⟨y,t,rfl,h1,h2⟩:=h.heads g' (by simp [hg]);exact ⟨y,t,rfl,h1,by omega⟩
  ·simp only [List.mem_singleton] at hg;subst hg;exact ⟨_,_,rfl,h1,by omega⟩
 ·refine List.pairwise_append.2 ⟨p1,by simp,fun a ha b hb=> ?_⟩
  simp only [List.mem_singleton] at hb;subst hb
  have:=p3 a ha (x::t) (by simp)
  simpa using this
 ·have:=h.len;simp at this⊢;omega
 ·rcases List.mem_append.1 hg with hg|hg
  ·have:=h.lens g' (by simp [hg]);omega
  ·simp only [List.mem_singleton] at hg;subst hg
   have:=h.lens (x::t) (by simp);simp at this⊢;omega
theorem Qc7 (l:List Int):∀k,k≤l.length→GOk k (Qa6 (l.take k)).2.2
 |0,_=>GOk.nil
 |k+1,h=>by
  obtain ⟨x,hx⟩:∃x,l[k]?=some x:=⟨_,List.getElem?_eq_getElem (by omega)⟩
  have ih:=Qc7 l k (by omega)
  rw [QcG hx]
  simp only [stepG]
  rw [Qd7 l k (by omega)]
  split
  ·rename_i hc
   rcases k with _|k
   ·exfalso;have:=hc.2;have h0:(Qa6 (l.take 0)).2.1=0:=rfl;omega
   ·have hne:=ih.some (by omega)
    rw [←List.dropLast_concat_getLast hne] at ih⊢
    rw [QdE]
    exact ih.more _
  ·exact ih.add
theorem Ql3 {W:World} {base:Nat} {e:TypeId} {n:Nat} {v:Value} {xs:List Value} (h:W.ownsRow base e 1 v (n+1) xs):∃g cap,v= .slice (some ⟨g,0,none⟩) (n+1) cap:=by
 rcases h.2 with ⟨_,h0⟩|⟨g,cap,_,rfl,_⟩
 ·omega
 ·exact ⟨g,cap,rfl⟩
theorem Nest.added {w0 w1:World} {base:Nat} {TO TI:TypeId} (ht:TO≠TI) {v v':Value} {gs:List (List Int)} {vs:List Value} {i:Int} {B:Nat} (hown:w0.ownsRow base TO 1 v gs.length vs)
  (hin:∀(j:Nat) u xs,vs[j]?=some u→gs[j]?=some xs→∃b cap,u= .slice (some ⟨b,0,none⟩) xs.length cap∧w0.ownsRow base TI 1 u xs.length (xs.map (Value.int .i64)))
  (hnew:w0.ownsRow base TI 1 (.slice (some ⟨B,0,none⟩) 1 1) 1 [.int .i64 i]) (hg:w0.grownBy w1 v.ownBlock)
  (hown':w1.ownsRow base TO 1 v' (gs.length+1) (vs++ [.slice (some ⟨B,0,none⟩) 1 1])):Nest w1 base TO TI v' (gs++ [[i]]):=by
 have hl:=hown.1
 have apart:∀{b n c:Nat} {ys:List Value},w0.ownsRow base TI 1 (.slice (some ⟨b,0,none⟩) n c) n ys→(Value.slice (some ⟨b,0,none⟩) n c).ownBlock=none∨(Value.slice (some ⟨b,0,none⟩) n c).ownBlock≠v.ownBlock:=by
  intro b n c ys ho
  right
  rcases hown.2 with ⟨rfl,_⟩|⟨g,cap,cur,rfl,_⟩
  ·simp [Value.ownBlock]
  ·simpa [Value.ownBlock] using QpF ho hown (Ne.symm ht)
 refine ⟨_,by simpa using hown',fun j u xs hu hx=> ?_⟩
 by_cases hj:j<gs.length
 ·rw [List.getElem?_append_left hj] at hx
  rw [List.getElem?_append_left (by omega)] at hu
  obtain ⟨b,c,rfl,ho⟩:=hin j u xs hu hx
  exact ⟨b,c,rfl,ho.kept hg (apart ho)⟩
 ·have hj2:j=gs.length:=by
   have:=(List.getElem?_eq_some_iff.1 hx).1;simp at this;omega
  subst hj2
  rw [List.getElem?_append_right (by omega)] at hu
  simp at hx hu
  have hvl:gs.length-vs.length=0:=by omega
  rw [hvl] at hu
  simp at hu
  subst hx;subst hu
  exact ⟨B,1,rfl,by simpa using hnew.kept hg (apart hnew)⟩
theorem Nest.stored {w1:World} {base:Nat} {TO TI:TypeId} (ht:TO≠TI) {g cap cap' b2:Nat} {a:List (List Int)} {xs:List Int} {i:Int} {vs:List Value}
  (hown:w1.ownsRow base TO 1 (.slice (some ⟨g,0,none⟩) (a.length+1) cap) (a.length+1) vs) (hin:∀(j:Nat) u ys,vs[j]?=some u→a[j]?=some ys→∃b cap,u= .slice (some ⟨b,0,none⟩) ys.length cap∧w1.ownsRow base TI 1 u ys.length (ys.map (Value.int .i64)))
  (hnew:w1.ownsRow base TI 1 (.slice (some ⟨b2,0,none⟩) (xs.length+1) cap') (xs.length+1) ((xs++ [i]).map (Value.int .i64))):
  Nest (w1.setCell ⟨g,a.length,none⟩ (.slice (some ⟨b2,0,none⟩) (xs.length+1) cap')) base TO TI (.slice (some ⟨g,0,none⟩) (a.length+1) cap) (a++ [xs++ [i]]):=by
 have hl:=hown.1
 refine ⟨vs.set a.length (.slice (some ⟨b2,0,none⟩) (xs.length+1) cap'),by simpa using (hown.stored a.length _).1,fun j u ys hu hy=> ?_⟩
 rw [List.getElem?_set] at hu
 split at hu
 ·rename_i hj;subst hj
  simp at hy;subst hy
  split at hu
  ·simp only [Option.some.injEq] at hu;subst hu
   refine ⟨b2,cap',by simp, ?_⟩
   have:=ownsRow_setCell_other hnew (a:=⟨g,a.length,none⟩) (by simpa [Value.ownBlock] using QpF hnew hown (Ne.symm ht)) (.slice (some ⟨b2,0,none⟩) (xs.length+1) cap')
   simpa using this
  ·cases hu
 ·rename_i hj
  have hjl:j<a.length:=by
   have:=(List.getElem?_eq_some_iff.1 hy).1;simp at this;omega
  rw [List.getElem?_append_left hjl] at hy
  obtain ⟨b,c,rfl,ho⟩:=hin j u ys hu hy
  exact ⟨b,c,rfl,ownsRow_setCell_other ho (a:=⟨g,a.length,none⟩) (by simpa [Value.ownBlock] using QpF ho hown (Ne.symm ht)) _⟩
theorem Tryz.infoInts:(Tryz.prog.info? 27).map (fun i=>(i.zero,i.size,i.bytes))=some (some (.slice none 0 0),1,24):=by kernel_rfl
theorem Tryz.infoInt:(Tryz.prog.info? 3).map (fun i=>(i.zero,i.size,i.bytes))=some (some (.int .i64 0),1,8):=by kernel_rfl
set_option maxHeartbeats 2000000 in
set_option maxRecDepth 100000 in
theorem Tryz.groups_walk (l:List Int) (p:Option Addr) (b off cap:Nat) (w:World) (hn:l.length≤1000000000000) (hp:l.length≠0→p=some ⟨b,off,none⟩) (hb:l.length≠0→b<w.heap.size)
  (hc:∀(k:Nat) x,l[k]?=some x→w.cell? ⟨b,off+k,none⟩=some (.int .i64 x)):
  Calls Tryz.prog 89 #[.slice p l.length cap] w fun e w'=>∃v,e= .returned v∧Nest w' w.heap.size 27 3 v (QaO l)∧(l= []→v= .slice none 0 0)∧Below w.heap.size w w':=by
 obtain ⟨i0,hi,hz0,hz1,hz2⟩:=info_parts Tryz.infoInts
 obtain ⟨j0,ji,jz0,jz1,jz2⟩:=info_parts Tryz.infoInt
 go_enter Tryz.func89,Tryz.ntmps89
 go_wp2
 go_loopw [3,9] (fun v i wr=>∃k:Nat,k≤l.length∧i= .int .i64 k∧Nest wr w.heap.size 27 3 v (Qa6 (l.take k)).2.2∧(k=0→v= .slice none 0 0)∧Below w.heap.size w wr)
  (fun _ i _=>l.length-(intOf i).toNat)
 case atStart=>
  exact ⟨0,Nat.zero_le _,rfl,⟨[],World.ownsRow_nil _ _ _ _,fun j u xs hu=>by simp at hu⟩,fun _=>rfl,Below.refl _ w⟩
 case round=>
  obtain ⟨k,hk,rfl,⟨vs,hown,hin⟩,hk0,hB⟩:=hrel
  have hsz:=hB.size
  by_cases hlt:k<l.length
  ·obtain ⟨x,hx⟩:∃x,l[k]?=some x:=⟨_,List.getElem?_eq_getElem hlt⟩
   obtain rfl:=hp (by omega)
   have hbb:=hb (by omega)
   have c1:wr.cell? ⟨b,off+k,none⟩=some (.int .i64 x):=(hB.cell (by exact hbb)).trans (hc k x hx)
   have ok:=Qc7 l k hk
   have hst:=QcG hx
   have hcnt:=Qd7 l k hk
   obtain ⟨gs,hgs⟩:∃gs,(Qa6 (l.take k)).2.2=gs:=⟨_,rfl⟩
   rw [hgs] at hown hin ok
   have hglen:=ok.len
   have other:¬(x>0∧(Qa6 (l.take k)).2.1=x)→(Qa6 (l.take (k+1))).2.2=gs++ [[(k:Int)]]:=fun hno=>by
    rw [hst];simp only [stepG];rw [if_neg hno,hgs,hcnt]
   obtain ⟨A,hA⟩:∃A,Obj.cells #[Value.int .i64 (k:Int)] 3=A:=⟨_,rfl⟩
   obtain ⟨A2,hA2⟩:∃A2,Obj.cells #[Value.slice (some ⟨wr.heap.size,0,none⟩) 1 1] 27=A2:=⟨_,rfl⟩
   have e0:((wr.alloc A).alloc A2).cell? ⟨wr.heap.size+1,0,none⟩=some (.slice (some ⟨wr.heap.size,0,none⟩) 1 1):=by
    rw [←hA2];exact World.cell?_alloc_at _ _ _ _ (by simp)
   have hnew1:((wr.alloc A).alloc A2).ownsRow w.heap.size 3 1 (.slice (some ⟨wr.heap.size,0,none⟩) 1 1) 1 [.int .i64 (k:Int)]:=by
    rw [←hA];exact (World.ownsRow_lit wr #[.int .i64 (k:Int)] 1 hsz (by decide) rfl).alloc _
   by_cases h0:0<k
   ·obtain ⟨y,hy⟩:∃y,l[k-1]?=some y:=⟨_,List.getElem?_eq_getElem (by omega)⟩
    have hprev:(Qa6 (l.take k)).2.1=y:=by
     obtain ⟨q,rfl⟩:∃q,k=q+1:=⟨k-1,by omega⟩
     exact QlU hy
    have c0:wr.cell? ⟨b,off+(k-1),none⟩=some (.int .i64 y):=(hB.cell (by exact hbb)).trans (hc (k-1) y hy)
    by_cases hxp:0<x
    ·by_cases hyx:y=x
     ·subst hyx
      subst hA2
      have hne:=ok.some h0
      obtain ⟨a,xs,rfl⟩:∃a xs,gs=a++ [xs]:=⟨_,_,(List.dropLast_concat_getLast hne).symm⟩
      rw [show (a++ [xs]).length=a.length+1 by simp] at hown hglen
      obtain ⟨g,capg,rfl⟩:=Ql3 hown
      have hvl:=hown.1
      obtain ⟨u,hu⟩:∃u,vs[a.length]?=some u:=⟨_,List.getElem?_eq_getElem (by omega)⟩
      obtain ⟨b1,cap1,rfl,hown1⟩:=hin a.length u xs hu (by simp)
      have d0:wr.cell? ⟨g,a.length,none⟩=some (.slice (some ⟨b1,0,none⟩) xs.length cap1):=(hown.cellAt _ (by omega)).trans hu
      have hxl:=ok.lens xs (by simp)
      have e1:(wr.alloc A).cell? ⟨wr.heap.size,0,none⟩=some (.int .i64 (k:Int)):=by
       rw [←hA];exact World.cell?_alloc_at _ _ _ _ rfl
      have hg1:=QpF hown1 hown (by decide)
      have d2:(wr.alloc A).cell? ⟨g,a.length,none⟩=some (.slice (some ⟨b1,0,none⟩) xs.length cap1):=((hown.alloc A).cellAt _ (by omega)).trans hu
      subst hA
      go_wp2_with (at_builtin;refine wpList_append_own _ rfl _ _ 27 rfl w.heap.size 3 j0 (.int .i64 0) 1 8 Tryz.underlying27 ji jz0 jz1 jz2 rfl (by decide) _ _ _ rfl (hown1.alloc _) ⟨wr.heap.size,0,none⟩ 1 1 [.int .i64 (k:Int)] rfl rfl ?c1p ?c2p ?c3p ?c4p ?c5p ?_)
      case c2p=>rfl
      case c3p=>unfold maxLen;omega
      case c4p=>omega
      case c5p=>omega
      intro v' w1 hown1' hgrow _
      obtain ⟨b2,cap2,rfl⟩:=Ql3 hown1'
      have hownO:=(hown.alloc (Obj.cells #[Value.int .i64 (k:Int)] 3)).kept hgrow (.inr (by simpa [Value.ownBlock] using Ne.symm hg1))
      have d1:w1.cell? ⟨g,a.length,none⟩=some (.slice (some ⟨b1,0,none⟩) xs.length cap1):=(hownO.cellAt _ (by omega)).trans hu
      have f1:=hownO.frozenAt a.length
      have hin1:∀(j:Nat) u ys,vs[j]?=some u→a[j]?=some ys→∃b cap,u= .slice (some ⟨b,0,none⟩) ys.length cap∧w1.ownsRow w.heap.size 3 1 u ys.length (ys.map (Value.int .i64)):=fun j u ys hu hy=>by
       have hjl:=(List.getElem?_eq_some_iff.1 hy).1
       obtain ⟨b,c,rfl,ho⟩:=hin j u ys hu (by rw [List.getElem?_append_left hjl];exact hy)
       refine ⟨b,c,rfl,(ho.alloc _).kept hgrow (.inr ?_)⟩
       have hm:=List.mem_of_getElem? hy
       have hap:=(List.pairwise_append.1 ok.apart).2.2 ys hm xs (by simp)
       obtain ⟨h1,t1,rfl,_⟩:=ok.heads ys (by simp [hm])
       obtain ⟨h2,t2,rfl,_⟩:=ok.heads xs (by simp)
       simpa [Value.ownBlock] using Qy8 ho hown1 (by simpa using hap)
      have hN:=Nest.stored (by decide) hownO hin1 (by simpa using hown1')
      have hfin:(Qa6 (l.take (k+1))).2.2=a++ [xs++ [(k:Int)]]:=by
       rw [hst];simp only [stepG];rw [if_pos ⟨hxp,hprev⟩,hgs,hcnt,QdE]
      rw [←hfin] at hN
      have hB3:Below w.heap.size w (w1.setCell ⟨g,a.length,none⟩ (.slice (some ⟨b2,0,none⟩) (xs.length+1) cap2)):=((hB.alloc hsz _).grown hgrow (by simp;omega) (fun j ej=>(hown1.lt j ej).1)).setCell (p:=⟨g,a.length,none⟩) (hown.lt g rfl).1 _
      go_wp2
      go_roundw
      case rel=>exact ⟨k+1,by omega,rfl,hN,fun q=>absurd q (by omega),hB3⟩
      case measure=>simp [intOf];omega
     ·subst hA
      subst hA2
      go_wp2_with (at_builtin;refine wpList_append_own _ rfl _ _ 131 rfl w.heap.size 27 i0 (.slice none 0 0) 1 24 Tryz.underlying131 hi hz0 hz1 hz2 rfl (by decide) _ _ _ rfl ((hown.alloc _).alloc _) ⟨wr.heap.size+1,0,none⟩ 1 1 [.slice (some ⟨wr.heap.size,0,none⟩) 1 1] rfl rfl ?c1q ?c2q ?c3q ?c4q ?c5q ?_)
      case c2q=>rfl
      case c3q=>unfold maxLen;omega
      case c4q=>omega
      case c5q=>omega
      intro v' w1 hown' hgrow _
      have hN:=Nest.added (by decide) ((hown.alloc _).alloc _) (fun j u xs hu hx=>let ⟨b,c,h1,h2⟩:=hin j u xs hu hx;⟨b,c,h1,(h2.alloc _).alloc _⟩) hnew1 hgrow hown'
      rw [←other (fun h=>by rw [hprev] at h;exact hyx h.2)] at hN
      have hB3:Below w.heap.size w w1:=((hB.alloc hsz _).alloc (by simp;omega) _).grown hgrow (by simp;omega) (fun j ej=>(hown.lt j ej).1)
      go_wp2
      go_roundw
      case rel=>exact ⟨k+1,by omega,rfl,hN,fun q=>absurd q (by omega),hB3⟩
      case measure=>simp [intOf];omega
    ·subst hA
     subst hA2
     go_wp2_with (at_builtin;refine wpList_append_own _ rfl _ _ 131 rfl w.heap.size 27 i0 (.slice none 0 0) 1 24 Tryz.underlying131 hi hz0 hz1 hz2 rfl (by decide) _ _ _ rfl ((hown.alloc _).alloc _) ⟨wr.heap.size+1,0,none⟩ 1 1 [.slice (some ⟨wr.heap.size,0,none⟩) 1 1] rfl rfl ?c1r ?c2r ?c3r ?c4r ?c5r ?_)
     case c2r=>rfl
     case c3r=>unfold maxLen;omega
     case c4r=>omega
     case c5r=>omega
     intro v' w1 hown' hgrow _
     have hN:=Nest.added (by decide) ((hown.alloc _).alloc _) (fun j u xs hu hx=>let ⟨b,c,h1,h2⟩:=hin j u xs hu hx;⟨b,c,h1,(h2.alloc _).alloc _⟩) hnew1 hgrow hown'
     rw [←other (fun h=>by omega)] at hN
     have hB3:Below w.heap.size w w1:=((hB.alloc hsz _).alloc (by simp;omega) _).grown hgrow (by simp;omega) (fun j ej=>(hown.lt j ej).1)
     go_wp2
     go_roundw
     case rel=>exact ⟨k+1,by omega,rfl,hN,fun q=>absurd q (by omega),hB3⟩
     case measure=>simp [intOf];omega
   ·have hprev:(Qa6 (l.take k)).2.1=0:=by
     have hk1:k=0:=by omega
     subst hk1
     rfl
    subst hA
    subst hA2
    go_wp2_with (at_builtin;refine wpList_append_own _ rfl _ _ 131 rfl w.heap.size 27 i0 (.slice none 0 0) 1 24 Tryz.underlying131 hi hz0 hz1 hz2 rfl (by decide) _ _ _ rfl ((hown.alloc _).alloc _) ⟨wr.heap.size+1,0,none⟩ 1 1 [.slice (some ⟨wr.heap.size,0,none⟩) 1 1] rfl rfl ?c1s ?c2s ?c3s ?c4s ?c5s ?_)
    case c2s=>rfl
    case c3s=>unfold maxLen;omega
    case c4s=>omega
    case c5s=>omega
    intro v' w1 hown' hgrow _
    have hN:=Nest.added (by decide) ((hown.alloc _).alloc _) (fun j u xs hu hx=>let ⟨b,c,h1,h2⟩:=hin j u xs hu hx;⟨b,c,h1,(h2.alloc _).alloc _⟩) hnew1 hgrow hown'
    rw [←other (fun h=>by rw [hprev] at h;omega)] at hN
    have hB3:Below w.heap.size w w1:=((hB.alloc hsz _).alloc (by simp;omega) _).grown hgrow (by simp;omega) (fun j ej=>(hown.lt j ej).1)
    go_wp2
    go_roundw
    case rel=>exact ⟨k+1,by omega,rfl,hN,fun q=>absurd q (by omega),hB3⟩
    case measure=>simp [intOf];omega
  ·have hkl:k=l.length:=by omega
   subst hkl
   go_wp2
   go_ret
   exact ⟨_,rfl,⟨vs,by simpa [QaO] using hown,fun j u xs hu hx=>hin j u xs hu (by simpa [QaO] using hx)⟩,fun q=>hk0 (by simp [q]),hB⟩
end Go.Proofs
