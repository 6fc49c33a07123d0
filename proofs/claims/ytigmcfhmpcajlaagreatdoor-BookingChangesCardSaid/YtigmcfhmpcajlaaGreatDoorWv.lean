/- Walks of slices.Collect over slices.Values: what is read is what lay there. Conditions: as each says. -/
import Derived.RangeFuncBox
import Derived.RangeFuncLeaves
import Derived.RangeFuncNested
import Derived.Shelf.Abstract
import Derived.WalkKit
import Derived.OwnWalkIn
import Derived.TacticsInMore
import Derived.LoopNIn
import Derived.LoopIn
import Derived.Maps.AppendAt
import Derived.Outline
import Derived.Test.YtigmcfhmpcajlaaGreatDoorProg
import Derived.Test.YtigmcfhmpcajlaaGreatDoorDf
import Derived.Test.YtigmcfhmpcajlaaGreatDoorWg
namespace Go.Proofs
open Go.RowKit
theorem Qq3 {w:World} {base base':Nat} {e:TypeId} {size:Nat} {v:Value} {n:Nat} {xs:List Value} (h:w.ownsRow base e size v n xs) (hb:base'≤base):w.ownsRow base' e size v n xs:=by
 obtain ⟨h1,h2⟩:=h
 refine ⟨h1, ?_⟩
 rcases h2 with h2|⟨g,cap,cur,a,b,c⟩
 ·exact .inl h2
 ·exact .inr ⟨g,cap,cur,a,Nat.le_trans hb b,c⟩
def KeepLow (n0:Nat) (W W':World):Prop:=∀k,k<n0→W'.heap[k]?=W.heap[k]?
theorem KeepLow.cell {n0:Nat} {W W':World} (h:KeepLow n0 W W') {p:Addr} (hp:p.block<n0):W'.cell? p=W.cell? p:=World.cell?_of_block (h _ hp)
def QhP (W:World) (b o:Nat) (zs:List Int):Prop:=∀(k:Nat) z,zs[k]?=some z→W.cell? ⟨b,o+k,none⟩=some (.int .i64 z)
attribute [local go_sem] Oper.semAt_some
set_option maxRecDepth 100000 in
set_option maxHeartbeats 4000000 in
theorem Tryz.values2_in (F:Fence) (n:Nat) (hf:F.fn 107) (hro:F.round=none) (hn:1≤n) (l n0 B1 b o L cap:Nat) (ad:Option Addr) (zs:List Int) (hz:zs.length=L) (hL:L≤10000000) (hcap:L≤cap) (had:0<L→ad=some ⟨b,o,none⟩) (hb:0<L→b<n0)
  (J Jx:List Int→World→Prop) (W:World)
  (hY:∀pre x W1,J pre W1→pre.length<10000000→YieldAt F (n-1) Tryz.prog l #[.int .i64 x] W1 fun e W'=>(e= .returned (.bool true)∧J (pre++ [x]) W'∧KeepLow n0 W1 W')∨(e= .returned (.bool false)∧Jx (pre++ [x]) W'))
  (hC:QhP W b o zs) (c0:W.cell? ⟨B1,0,none⟩=some (.slice ad L cap)) (h0:J [] W):
  CallsIn F n Tryz.prog 107 #[.func (.yield l) #[] #[], .pointer (some ⟨B1,0,none⟩)] W fun e W'=>(∃v,e= .returned v)∧((∃xs,xs=zs∧J xs W')∨(∃pre,True∧Jx pre W')):=by
 have g1:1≤n:=hn
 refine callsIn_of_wp Tryz.func107 rfl hf ?_ hro
 simp only [Tryz.ntmps107,List.size_toArray,List.length_cons,List.length_nil,Nat.reduceAdd,Nat.reduceSub,Array.replicate_succ,Array.replicate_zero,List.push_toArray,List.append_toArray,List.nil_append,List.cons_append]
 gi_wp2
 gi_loopw [7] (fun i wr=>∃k:Nat,i= .int .i64 (k:Int)∧k≤L∧J (zs.take k) wr∧QhP wr b o zs) (fun i _=>((L:Int)+1-intOf i).toNat)
 case atStart=>exact ⟨0,by simp,by omega,by simpa using h0,hC⟩
 case round=>
  obtain ⟨k,rfl,hk,hJs,hCr⟩:=hrel
  by_cases hlt:k<L
  ·have had:=had (by omega)
   have hb:=hb (by omega)
   subst had
   obtain ⟨z,hzk⟩:∃z,zs[k]?=some z:=⟨_,List.getElem?_eq_getElem (by omega)⟩
   have r:=hCr k z hzk
   obtain ⟨fn,tmps,assign,body,hy,hR⟩:=hY (zs.take k) z wr hJs (by simp;omega)
   have htk:zs.take k++ [z]=zs.take (k+1):=by rw [List.take_add_one,hzk];rfl
   rw [htk] at hR
   clear hzk htk
   gi_wp2
   refine hR.mono ?_
   rintro en W3 (⟨rfl,hJ3,hk3⟩|⟨rfl,hJx3⟩)
   ·gi_wp2
    go_roundw
    case rel=>exact ⟨k+1,by congr 1,by omega,hJ3,fun j y hj=>(hk3.cell (p:=⟨b,o+j,none⟩) hb).trans (hCr j y hj)⟩
    case measure=>simp [intOf];omega
   ·gi_wp2
    refine bodyPost_ret (results_none rfl _ _ _) rfl ?_
    exact ⟨⟨_,rfl⟩, .inr ⟨_,trivial,hJx3⟩⟩
  ·have hkk:k=L:=by omega
   subst hkk
   gi_wp2
   go_end0
   exact ⟨⟨_,rfl⟩, .inl ⟨_,rfl,by rw [←hz,List.take_length] at hJs;exact hJs⟩⟩
theorem Tryz.values_stops (F:Fence) (n:Nat) (hf:F.fn 107) (hro:F.round=none) (hn:1≤n) (n0 B1 b o L cap:Nat) (ad:Option Addr) (zs:List Int) (hz:zs.length=L) (hL:L≤10000000) (hcap:L≤cap) (had:0<L→ad=some ⟨b,o,none⟩) (w:World) (hb:0<L→b<n0) (hB1:B1<n0) (hn0:n0≤w.heap.size)
  (hC:QhP w b o zs) (c0:w.cell? ⟨B1,0,none⟩=some (.slice ad L cap)):
  SeqStopsK F n Tryz.prog 107 #[.pointer (some ⟨B1,0,none⟩)] (fun x:Int=> #[Value.int .i64 x]) (KeepLow n0) (fun ys=>ys=zs) (fun _=>True) 10000000 w:=fun l J Jx W hW hJ _ hY h0=>
 Tryz.values2_in F n hf hro hn l n0 B1 b o L cap ad zs hz hL hcap had hb J Jx W hY (fun k z hk=>by
  have:0<L:=by have:=(List.getElem?_eq_some_iff.1 hk).1;omega
  exact (hW.cell (p:=⟨b,o+k,none⟩) (Nat.lt_of_lt_of_le (hb this) hn0)).trans (hC k z hk)) ((hW.cell (p:=⟨B1,0,none⟩) (Nat.lt_of_lt_of_le hB1 hn0)).trans c0) h0
theorem QwJ {n0:Nat} {w:World} (hn:n0≤w.heap.size) (W:World) (l:Nat) (o o':Obj) (hl:w.heap.size≤l) (h:W.heap[l]?=some o) (_:o.isCells=false) (_:o.isWalk=false):KeepLow n0 W (W.putObj l o'):=fun k hk=>by
 have hl2:=(Array.getElem?_eq_some_iff.1 h).1
 exact (grownBy_putObj' W l o').block k (by omega) (by intro e;cases e;omega)
set_option maxRecDepth 100000 in
set_option maxHeartbeats 4000000 in
theorem Tryz.AppendSeq_in (F:Fence) (n:Nat) (h3:F.fn 147) (hf:F.fn 107) (hro:F.round=none) (hn:3≤n) (B1 b o L cap:Nat) (ad:Option Addr) (zs:List Int) (hz:zs.length=L) (hL:L≤10000000) (hcap:L≤cap) (had:0<L→ad=some ⟨b,o,none⟩) (w:World) (hb:0<L→b<w.heap.size) (hB1:B1<w.heap.size)
  (hC:QhP w b o zs) (c0:w.cell? ⟨B1,0,none⟩=some (.slice ad L cap)):
  CallsIn F n Tryz.prog 147 #[.slice none 0 0, .func (.func 107) #[] #[.pointer (some ⟨B1,0,none⟩)]] w fun e W'=>∃v,e= .returned v∧W'.ownsRow w.heap.size 3 1 v zs.length (zs.map (Value.int .i64))∧(v= .slice none 0 0↔zs= [])∧Below w.heap.size w W':=by
 have h1:1≤n:=by omega
 obtain ⟨i0,hi,hz0,hz1,hz2⟩:=info_parts Tryz.infoInt
 refine callsIn_of_wp_marks Tryz.func147 rfl h3 ?_ hro
 simp only [Tryz.ntmps147,List.size_toArray,List.length_cons,List.length_nil,Nat.reduceAdd,Nat.reduceSub,Array.replicate_succ,Array.replicate_zero,List.push_toArray,List.append_toArray,List.nil_append,List.cons_append]
 have hB0:Below w.heap.size w (w.alloc (.cells #[.slice none 0 0] 27)):=(Below.refl _ w).alloc (Nat.le_refl _) _
 have bO:=Boxed.new w 27 (.slice none 0 0)
 have hsz:(w.alloc (.cells #[.slice none 0 0] 27)).heap.size=w.heap.size+1:=by simp
 have hC1:QhP (w.alloc (.cells #[.slice none 0 0] 27)) b o zs:=fun k z hk=>by
  have:0<L:=by have:=(List.getElem?_eq_some_iff.1 hk).1;omega
  exact (World.cell?_alloc_past _ _ _ (by exact hb this)).trans (hC k z hk)
 have c1:(w.alloc (.cells #[.slice none 0 0] 27)).cell? ⟨B1,0,none⟩=some (.slice ad L cap):=(World.cell?_alloc_past _ _ _ hB1).trans c0
 gi_wp2
 refine wpIn_rangeFunc_ownG hro h1 (gf:=107) (lb:= #[.pointer (some ⟨B1,0,none⟩)]) rfl hf (enters_of Tryz.func107 (by kernel_rfl) rfl)
  (Tryz.values_stops F (n-1) hf hro (by omega) w.heap.size B1 b o L cap ad zs hz hL hcap had (w.alloc (.cells #[.slice none 0 0] 27)) hb hB1 (by rw [hsz];omega) hC1 c1) (fun h k=>fun i hi=>(k i hi).trans (h i hi)) (QwJ (by rw [hsz];omega)) (Below.refl _ _) (fun _=>rfl)
  (fun pre W=>(∃v,Boxed W w.heap.size 27 v∧W.ownsRow (w.heap.size+1) 3 1 v pre.length (pre.map (Value.int .i64))∧(v= .slice none 0 0↔pre= []))∧Below w.heap.size w W)
  (fun _ _ _=>False)
  (OwnFrom.and (Own.from (holdsRow_own (w.heap.size+1) w.heap.size 27 3 1 (fun pre:List Int=>pre.length) (fun pre=>pre.map (Value.int .i64)) (fun pre v=>v= .slice none 0 0↔pre= [])) _) (ownFrom_below (Nat.le_refl _) (by rw [hsz];omega)))
  (fun _ _ _ _ _ hs _ _=>hs)
  ⟨⟨_,bO,World.ownsRow_nil _ _ _ _,by simp⟩,hB0⟩
  (fun x=>{tmps:= #[.slice none 0 0, .func (.func 107) #[] #[.pointer (some ⟨B1,0,none⟩)], .pointer (some ⟨w.heap.size,0,none⟩),undef, .slice none 0 0, .int .i64 x, .func (.func 107) #[] #[.pointer (some ⟨B1,0,none⟩)], .int .i64 x,undef,undef,undef,undef,undef],defers:= []}) ?assign ?body ?done ?stop
 case assign=>
  intro l x W K hK
  gi_wp2
  exact hK
 case body=>
  rintro l pre x W ⟨⟨v,hv,hrow,hnil⟩,hB⟩ hlt
  have hc:=hv.cell
  gi_wp2_with (gi_at_builtin;refine wpListIn_append_own _ rfl _ _ 27 rfl (w.heap.size+1) 3 i0 (.int .i64 0) 1 8 Tryz.underlying27 hi hz0 hz1 hz2 rfl (by decide) _ _ _ rfl (hrow.alloc _) ⟨W.heap.size,0,none⟩ 1 1 [.int .i64 x] rfl rfl (cell_one_new _ _ _) (by simp [Value.oneCell']) (by unfold maxLen;omega) (by omega) (by have:=hB.size;have:=hv.lt;simp;omega) ?_;intro v' w1 hown' hgrow _;obtain ⟨g',cap',rfl⟩:=ownsRow_succ hown';have rowUp:=hown'.kept (grownBy_setCell' w1 w.heap.size (.slice (some ⟨g',0,none⟩) (pre.length+1) cap')) (.inr (fun e=>by have:=(hown'.lt _ e).1;omega));obtain ⟨hv1,hv2,hr2,hk2,hb2⟩:=hv.appended (e:=3) (by decide) (Qq3 hrow (base':=w.heap.size) (by omega)) hB.size (by omega) (Qq3 hown' (base':=w.heap.size) (by omega)) hgrow;have hc1:=hv1.cell;have hf1:=hv1.frozen)
  exact ⟨hk2.from _,fun i hi=>(hb2.block i hi),⟨_,hv2,by simpa using rowUp,by simp⟩,hB.trans hb2⟩
 case done=>
  rintro D ys W hD rfl ⟨⟨v,hv,hrow,hnil⟩,hB⟩ hK
  have hc:=hv.cell
  gi_wp2
  refine ⟨by simp, .inl ⟨_,_,rfl,run_takeDeferred hK, ?_⟩⟩
  exact ⟨_,results_tmp rfl _ _ _,v,rfl,ownsRow_putObj (Qq3 hrow (base':=w.heap.size) (by omega)) _ hK rfl,hnil,hB.trans (belowK_b (w:=w) (Nat.le_refl _) W D _ _ (by simp at hD;omega) hK rfl rfl)⟩
 case stop=>
  rintro D c pre W _ _ h _
  exact h.elim
set_option maxHeartbeats 1000000 in
theorem Tryz.Collect_in (F:Fence) (n:Nat) (h2:F.fn 105) (h3:F.fn 147) (hf:F.fn 107) (hro:F.round=none) (hn:4≤n) (B1 b o L cap:Nat) (ad:Option Addr) (zs:List Int) (hz:zs.length=L) (hL:L≤10000000) (hcap:L≤cap) (had:0<L→ad=some ⟨b,o,none⟩) (w:World) (hb:0<L→b<w.heap.size) (hB1:B1<w.heap.size)
  (hC:QhP w b o zs) (c0:w.cell? ⟨B1,0,none⟩=some (.slice ad L cap)):
  CallsIn F n Tryz.prog 105 #[.func (.func 107) #[] #[.pointer (some ⟨B1,0,none⟩)]] w fun e W'=>∃v,e= .returned v∧W'.ownsRow w.heap.size 3 1 v zs.length (zs.map (Value.int .i64))∧(v= .slice none 0 0↔zs= [])∧Below w.heap.size w W':=by
 refine callsIn_of_wp Tryz.func105 rfl h2 ?_ hro
 simp only [Tryz.ntmps105,List.size_toArray,List.length_cons,List.length_nil,Nat.reduceAdd,Nat.reduceSub,Array.replicate_succ,Array.replicate_zero,List.push_toArray,List.append_toArray,List.nil_append,List.cons_append]
 gi_wp2
 refine ⟨fun _=>by omega, ?_⟩
 refine (Tryz.AppendSeq_in F (n-1) h3 hf hro (by omega) B1 b o L cap ad zs hz hL hcap had w hb hB1 hC c0).mono ?_
 rintro e w' ⟨v,rfl,q1,q2,q3⟩
 gi_wp2
 go_ret
 exact ⟨_,rfl,q1,q2,q3⟩
end Go.Proofs
