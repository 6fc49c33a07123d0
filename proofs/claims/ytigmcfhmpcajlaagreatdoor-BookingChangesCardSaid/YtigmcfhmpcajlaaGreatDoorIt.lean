/- What iterators yield: slices.Chunk. Conditions: as each says. -/
import Derived.Test.YtigmcfhmpcajlaaGreatDoorAmC
import Derived.Test.YtigmcfhmpcajlaaGreatDoorEv
import Derived.Test.YtigmcfhmpcajlaaGreatDoorCk
set_option linter.unusedVariables false
namespace Go.Proofs
open Go.RowKit Go.Am
def QzM (P:Program) (B:Nat) (W0:Base) (f:FuncId) (it:List (List CV)→Option (List (List CV))):Prop:=
 ∀cs items,it cs=some items→∀(w:World) (h:Hw) (bs:List Nat),Below B W0.W w→(∀b,w.heap.size≤b→h b=0)→bs.length=cs.length→bs.Nodup→
  (∀(i:Nat) c b,cs[i]?=some c→bs[i]?=some b→∃vs t fz,w.heap[b]?=some (.cells vs t fz)∧CRepV w h c vs.toList∧h b=0∧∀i,i<vs.size→¬(fz.1≤i∧i<fz.2))→
  (∀args w',(callFunc f args).run P w'= .ok (.enter f args) w')∧∃xs:List (Array Value),xs.length=items.length∧(∀(i:Nat) x c,xs[i]?=some x→items[i]?=some c→CRepT w h c x.toList)∧
   SeqX P f (bs.map fun b=>Value.pointer (some (Qas b 0))).toArray xs bs (fun b o=>o<h b) w
theorem QtR {f:FuncId} (h:(match Tryz.prog.funcs[f]? with|some fn=>fn.body.isSome&& !(fn.name== "runtime.NumGoroutine")|none=>false)=true):∀vs w,(callFunc f vs).run Tryz.prog w= .ok (.enter f vs) w:=by
 intro vs w
 cases hf:Tryz.prog.funcs[f]? with
 |none=>rw [hf] at h;cases h
 |some fn=>
  rw [hf] at h
  simp only [Bool.and_eq_true,Bool.not_eq_true',beq_eq_false_iff_ne,ne_eq] at h
  obtain ⟨c,hc⟩:=Option.isSome_iff_exists.1 h.1
  simp [callFunc,hf,hc,h.2]
theorem Qvm:∀{l:List (List CV)},l.all QqD=true→∃zs:List Int,l=zs.map fun z=> [CV.int .i64 z]
 | [],_=>⟨[],rfl⟩
 |c::l,h=>by
  simp only [List.all_cons,Bool.and_eq_true] at h
  obtain ⟨zs,rfl⟩:=Qvm h.2
  have h1:=h.1
  unfold QqD at h1
  split at h1
  ·rename_i z;exact ⟨z::zs,rfl⟩
  ·cases h1
theorem Qxj {B:Nat} {W0:Base}:QzM Tryz.prog B W0 107 itValues:=by
 intro cs items hi w h bs hbel hz hlen hnd hbox
 refine ⟨fun args w'=>QtR (by kernel_rfl) args w', ?_⟩
 unfold itValues at hi
 split at hi
 ·rename_i nn l
  cases hc:(decide (l.length≤10000000)&&l.all QqD) with
  |false=>rw [hc,cond_false] at hi;cases hi
  |true=>
   rw [hc,cond_true] at hi
   simp only [Bool.and_eq_true,decide_eq_true_eq] at hc
   obtain rfl:=Option.some.inj hi
   obtain ⟨zs,rfl⟩:=Qvm hc.2
   obtain ⟨B1,rfl⟩:∃B1,bs= [B1]:=by
    match bs,hlen with
    | [B1],_=>exact ⟨B1,rfl⟩
   obtain ⟨vs1,t1,fz1,q1,q2,_⟩:=hbox 0 _ B1 rfl rfl
   simp only [CRepV] at q2
   obtain ⟨v1,_,hv1,_,q2,rfl⟩:=q2
   have c0:w.cell? ⟨B1,0,none⟩=some v1:=by
    simp only [World.cell?,q1]
    have:vs1.toList[0]?=some v1:=by rw [hv1];rfl
    simpa using this
   obtain ⟨ad,b,o,cap,rfl,hcap,had,hsub⟩:∃ad b o cap,v1= .slice ad zs.length cap∧zs.length≤cap∧(0<zs.length→ad=some ⟨b,o,none⟩)∧
     ∀(k:Nat) z,zs[k]?=some z→o+k<h b∧w.cell? ⟨b,o+k,none⟩=some (.int .i64 z):=by
    simp only [CRep] at q2
    rcases q2 with ⟨_,h1,rfl⟩|⟨_,b,off,cap,es,⟨ad,h1,h2⟩,h3,h4,h5,h6⟩
    ·have:zs= []:=by simpa using h1
     subst this
     exact ⟨none,0,0,0,rfl,Nat.le_refl _,fun q=>by simp at q,fun k z hk=>by simp at hk⟩
    ·rw [List.length_map] at h1 h2 h3 h5
     refine ⟨some ad,b,off,cap,h1,h3,fun q=>congrArg some (h2 (.inr (by omega))),fun k z hk=> ?_⟩
     have hlt:k<zs.length:=(List.getElem?_eq_some_iff.1 hk).1
     have:es=1:=by rw [←h4 [.int .i64 z] (List.mem_map.2 ⟨z,List.mem_of_getElem? hk,rfl⟩)];rfl
     subst this
     refine ⟨by omega, ?_⟩
     have:=CRepLL.get h4 h6 (i:=k) (c:= [.int .i64 z]) (by rw [List.getElem?_map,hk];rfl)
     rw [Nat.mul_one] at this
     simp only [CRepC,CRep] at this
     obtain ⟨⟨v,k1,_,rfl⟩,_⟩:=this
     exact k1
   refine ⟨_, ?_, ?_,Tryz.values_seq zs rfl (by simpa using hc.1) hcap had hsub c0⟩
   ·simp
   ·intro i x c hx hc
    rw [List.getElem?_map] at hx hc
    cases hz:zs[i]? with
    |none=>rw [hz] at hx;cases hx
    |some z=>
     rw [hz] at hx hc
     simp only [Option.map_some,Option.some.injEq] at hx hc
     subst hx;subst hc
     simp [CRepT,CRep]
 ·cases hi
theorem Qy2 {B:Nat} {W0:Base} (hK:W0.K=KK):Quc Tryz.prog B W0:=by
 intro f it hit
 rw [hK] at hit
 have hit:QsQ f=some it:=hit
 unfold QsQ at hit
 cases h3:f==107 with
 |true=>
  rw [h3,cond_true] at hit
  obtain rfl:f=107:=by simpa using h3
  obtain rfl:=Option.some.inj hit
  exact Qxj
 |false=>
 rw [h3,cond_false] at hit
 cases hit
end Go.Proofs
