/- Iterators as the kit walks them: slices.Chunk of texts by five. Conditions: as each says. -/
import Derived.Test.YtigmcfhmpcajlaaGreatDoorAmC
import Derived.RangeFuncBox
import Derived.RangeFuncLeaves
import Derived.RangeFuncNested
import Derived.Shelf.Abstract
import Derived.WalkKit
import Derived.OwnWalkIn
import Derived.TacticsInMore
import Derived.LoopNIn
import Derived.LoopIn
import Derived.Outline
import Derived.BigRegionIn
import Derived.Test.YtigmcfhmpcajlaaGreatDoorProg
set_option linter.unusedVariables false
namespace Go.Shelf
end Go.Shelf
namespace Go.Proofs
open Go.RowKit Go.Shelf Go.Am
attribute [local go_sem] Oper.semAt_some
set_option maxRecDepth 100000 in
set_option maxHeartbeats 4000000 in
theorem Tryz.values1_in (l B1 b o L cap:Nat) (ad:Option Addr) (zs:List Int) (hz:zs.length=L) (hL:L≤10000000) (hcap:L≤cap) (had:0<L→ad=some ⟨b,o,none⟩)
  (J:Nat→World→Prop) (Jx:World→Prop) (hdr:∀i W,J i W→J i W.drew)
  (W:World) (hY:∀i W z,J i W→zs[i]?=some z→YieldAt Fence.wide 0 Tryz.prog l #[.int .i64 z] W fun e W'=>(e= .returned (.bool true)∧J (i+1) W')∨(e= .returned (.bool false)∧Jx W'))
  (hC:∀i W,J i W→∀(k:Nat) z,zs[k]?=some z→W.cell? ⟨b,o+k,none⟩=some (.int .i64 z))
  (c0:W.cell? ⟨B1,0,none⟩=some (.slice ad L cap)) (h0:J 0 W):
  CallsIn Fence.wide 1 Tryz.prog 107 #[.func (.yield l) #[] #[], .pointer (some ⟨B1,0,none⟩)] W fun e W'=>(∃v,e= .returned v)∧(J L W'∨Jx W'):=by
 refine callsIn_of_wp Tryz.func107 rfl trivial ?_ rfl
 simp only [Tryz.ntmps107,List.size_toArray,List.length_cons,List.length_nil,Nat.reduceAdd,Nat.reduceSub,Array.replicate_succ,Array.replicate_zero,List.push_toArray,List.append_toArray,List.nil_append,List.cons_append]
 gi_wp2
 gi_loopw [7] (fun i wr=>∃k:Nat,i= .int .i64 (k:Int)∧k≤L∧J k wr) (fun i _=>((L:Int)+1-intOf i).toNat)
 case atStart=>exact ⟨0,by simp,by omega,h0⟩
 case round=>
  obtain ⟨k,rfl,hk,hJs⟩:=hrel
  by_cases hlt:k<L
  ·have had:=had (by omega)
   subst had
   obtain ⟨z,hzk⟩:∃z,zs[k]?=some z:=⟨_,List.getElem?_eq_getElem (by omega)⟩
   have r:=hC k wr hJs k z hzk
   obtain ⟨fn,tmps,assign,body,hy,hR⟩:=hY k _ z hJs hzk
   gi_wp2
   refine hR.mono ?_
   rintro en W3 (⟨rfl,hJ3⟩|⟨rfl,hJx3⟩)
   ·gi_wp2
    exact ⟨⟨k+1,by congr 1,by omega,hJ3⟩,by simp [intOf];omega⟩
   ·gi_wp2
    refine bodyPost_ret (results_none rfl _ _ _) rfl ?_
    exact ⟨⟨_,rfl⟩, .inr hJx3⟩
  ·have hkk:k=L:=by omega
   subst hkk
   gi_wp2
   go_end0
   exact ⟨⟨_,rfl⟩, .inl hJs⟩
theorem Tryz.values_seq {C:Nat→Nat→Prop} {w:World} {B1 b o L cap:Nat} {ad:Option Addr} (zs:List Int) (hz:zs.length=L) (hL:L≤10000000) (hcap:L≤cap) (had:0<L→ad=some ⟨b,o,none⟩)
  (hC:∀(k:Nat) z,zs[k]?=some z→C b (o+k)∧w.cell? ⟨b,o+k,none⟩=some (.int .i64 z)) (c0:w.cell? ⟨B1,0,none⟩=some (.slice ad L cap)):
  SeqX Tryz.prog 107 #[.pointer (some ⟨B1,0,none⟩)] (zs.map fun z=> #[.int .i64 z]) [B1] C w:=by
 intro ν l J Jx W g hJ hJx hJC hY h0
 have old:∀k,k<w.heap.size→W.heap[k]?=w.heap[k]?:=fun k hk=>g.block k hk (fun h=>h)
 have cell:W.cell? ⟨B1,0,none⟩=some (.slice ad L cap):=by
  have hlt:B1<w.heap.size:=by
   refine Decidable.byContradiction fun hn=> ?_
   simp [World.cell?,Array.getElem?_eq_none (Nat.le_of_not_lt hn)] at c0
  rw [←c0];exact World.cell?_of_block (old B1 hlt)
 refine callsIn_wide.2 (callsIn_wide.1 ((Tryz.values1_in l B1 b o L cap ad zs hz hL hcap had J Jx (fun i W' h=>hJ i W' _ h ⟨rfl,rfl,rfl,Nat.le_refl _,fun _ _ _=>rfl,fun _ _ h=>h⟩) W (fun i W' z hJi hi=> ?_)
  (fun i W' hJi k z hk=>(hJC i W' hJi b (o+k) (hC k z hk).1).trans (hC k z hk).2) cell h0).mono fun e W' ⟨q1,q2⟩=>⟨q1,by simpa [hz] using q2⟩))
 obtain ⟨fn,tmps,asg,body,hy,hR⟩:=hY i _ W' 0 hJi (by rw [List.getElem?_map,hi];rfl)
 refine ⟨fn,tmps,asg,body,hy,hR.mono ?_⟩
 rintro e W2 (⟨h1,h2,_⟩|h)
 ·exact .inl ⟨h1,h2⟩
 ·exact .inr h
end Go.Proofs
