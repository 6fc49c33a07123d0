/- Any operation of the abstract machine is sound, and hangs on what it reads alone. Conditions: none. -/
import Derived.Test.YtigmcfhmpcajlaaGreatDoorAmB
import Derived.Orders
import Derived.RangeFuncBox
import Derived.RangeFuncLeaves
import Derived.OrdersIn
import Derived.LoopNIn
import Derived.Scope
import Derived.ProofKit
import Derived.Carry
import Derived.ChangeArms
import Derived.HandedShaped
import Derived.Stop.Joined
import Derived.LaidMore
namespace Go.Am
open Go.RowKit
variable {P:Program} {B:Nat} {W0:Base} {d:Nat} {σ:St} {a:Act} {w:World} {G:Gh} {β:Type} {call:FuncId→List CV→Option CV}
 {acc:List Loc} {r:β} {o:Oper}
theorem QxO {ops:List Oper} (SE:Qa5 P) (CO:CallOK P B W0 call) (S:Sim P B W0 d σ a w G) {k:List W→List Loc→Option β}
  (h:(opM P d ops o).exec call σ acc k=some r):OpDone P B W0 d o σ a w G k r:=by
 cases ho:o.op with
 |move x=>exact QyY S ho h
 |assign x=>exact Qwm S ho h
 |pick c x y=>exact Qzb S ho h
 |alloc t=>exact QxN S ho h
 |box t x=>exact Qzw S ho h
 |build t parts=>exact Qxy S ho h
 |buildSlice t n parts=>exact Qsl S ho h
 |load t x=>exact QyJ S ho h
 |store t x y=>exact QxV S ho h
 |nilCheck x=>exact QuB S ho h
 |binOp op t x y u=>exact QxT SE S ho h
 |unOp op t x=>exact Qzf S ho h
 |convert s t x=>exact QvS S ho h
 |slice t x l h' m=>exact QxQ S ho h
 |fieldAddr t x f=>exact QsY S ho h
 |field t x f=>exact QxZ S ho h
 |indexAddr t x i=>exact QtU S ho h
 |index t x i=>exact QxK S ho h
 |extract x i=>exact QvQ S ho h
 |makeSlice t l c=>exact Qtb S ho h
 |makeFunc f fs cs=>exact QuQ S ho h
 |range t x=>exact Qx0 S ho h
 |next x s=>exact QyH S ho h
 |makeMap t x=>exact QvE S ho h
 |lookup t x y ok=>exact QwM S ho h
 |mapUpdate t x y z=>exact QtY S ho h
 |call c=>
  cases hb:c.callee with
  |builtin b=>
   by_cases hap:b= .append
   ·exact Qxh S ho (hap▸hb) h
   ·by_cases hcp:b= .copy
    ·exact Qzo S ho (hcp▸hb) h
    ·by_cases hcl:b= .clear
     ·exact QxJ S ho (hcl▸hb) h
     ·exact QvM S ho hb ⟨hap,hcp,hcl⟩ h
  |value f=>exact QyE CO S ho hb h
  |_=>unfold opM at h;simp [ho,hb,M.exec] at h
 |_=>unfold opM at h;simp [ho,M.exec] at h
def Loc.same (σ σ':St):Loc→Prop
 | .tmp i=>nthD .any σ'.tmps i=nthD .any σ.tmps i
 | .cell d s o=>σ'.has (.cell d s o)=σ.has (.cell d s o)∧Qbm σ'.mem d s o=Qbm σ.mem d s o
 | .box d s=>(box? σ'.mem d s).isNone=(box? σ.mem d s).isNone∧QbV σ'.mem d s=QbV σ.mem d s
 | .glob _=>σ'.K=σ.K
 | .own _=>σ'.K=σ.K
 | .row _ _ _=>σ'.K=σ.K
def Shape (σ σ':St):Prop:=σ'.tmps.length=σ.tmps.length∧σ'.mem.length=σ.mem.length∧∀d,(nthD [] σ'.mem d).length=(nthD [] σ.mem d).length
theorem Loc.same.has {σ σ':St}:∀{l:Loc},Loc.same σ σ' l→σ'.has l=σ.has l
 | .tmp _,_=>rfl
 | .cell _ _ _,h=>h.1
 | .box _ _,_=>rfl
 | .glob _,_=>rfl
 | .own _,_=>rfl
 | .row _ _ _,_=>rfl
theorem Loc.same.get {σ σ':St}:∀{l:Loc},Loc.same σ σ' l→σ'.get l=σ.get l
 | .tmp _,h=>h
 | .cell _ _ _,h=>h.2
 | .box _ _,h=>h.2
 | .glob g,h=>by have h:σ'.K=σ.K:=h;simp only [St.get,h]
 | .own g,h=>by have h:σ'.K=σ.K:=h;simp only [St.get,h]
 | .row e s n,h=>by have h:σ'.K=σ.K:=h;simp only [St.get,h]
theorem M.exec_local {α:Type} {call:FuncId→List CV→Option CV} {σ:St}:∀(m:M α) {acc:List Loc} {k:α→List Loc→Option β} {r:β},m.exec call σ acc k=some r→
  ∃x rs,k x rs=some r∧(∀l∈acc,l∈rs)∧∀σ',Shape σ σ'→(∀l∈rs,Loc.same σ σ' l)→∀{γ:Type} (k':α→List Loc→Option γ),m.exec call σ' acc k'=k' x rs
 | .ret x,acc,k,r,h=>⟨x,acc,h,fun _ h=>h,fun _ _ _ _ _=>rfl⟩
 | .get l f,acc,k,r,h=>by
  simp only [M.exec] at h
  obtain ⟨h1,h⟩:=Qaf h
  obtain ⟨x,rs,h2,h3,h4⟩:=M.exec_local (f (σ.get l)) h
  refine ⟨x,rs,h2,fun y hy=>h3 y (by simp [hy]),fun σ' hs hl γ k'=> ?_⟩
  have e:=hl l (h3 l (by simp))
  simp only [M.exec,e.has,h1,e.get,chkO,cond_true]
  exact h4 σ' hs hl k'
 | .free d s m,acc,k,r,h=>by
  simp only [M.exec] at h
  obtain ⟨h1,h⟩:=Qaf h
  obtain ⟨x,rs,h2,h3,h4⟩:=M.exec_local m h
  refine ⟨x,rs,h2,fun y hy=>h3 y (by simp [hy]),fun σ' hs hl γ k'=> ?_⟩
  have e:(box? σ'.mem d s).isNone=(box? σ.mem d s).isNone:=(hl (.box d s) (h3 _ (by simp))).1
  simp only [M.exec,e,hs.2.2 d,h1,chkO,cond_true]
  exact h4 σ' hs hl k'
 | .chk b m,acc,k,r,h=>by
  simp only [M.exec] at h
  obtain ⟨h1,h⟩:=Qaf h
  obtain ⟨x,rs,h2,h3,h4⟩:=M.exec_local m h
  refine ⟨x,rs,h2,h3,fun σ' hs hl γ k'=> ?_⟩
  simp only [M.exec,h1,chkO,cond_true]
  exact h4 σ' hs hl k'
 | .br b t e,acc,k,r,h=>by
  cases b with
  |true=>
   obtain ⟨x,rs,h2,h3,h4⟩:=M.exec_local t (k:=k) (r:=r) (by simpa only [M.exec,cond_true] using h)
   exact ⟨x,rs,h2,h3,fun σ' hs hl γ k'=>by simp only [M.exec,cond_true];exact h4 σ' hs hl k'⟩
  |false=>
   obtain ⟨x,rs,h2,h3,h4⟩:=M.exec_local e (k:=k) (r:=r) (by simpa only [M.exec,cond_false] using h)
   exact ⟨x,rs,h2,h3,fun σ' hs hl γ k'=>by simp only [M.exec,cond_false];exact h4 σ' hs hl k'⟩
 | .opt (some y) f,acc,k,r,h=>by
  obtain ⟨x,rs,h2,h3,h4⟩:=M.exec_local (f y) (k:=k) (r:=r) (by simpa only [M.exec,optO] using h)
  exact ⟨x,rs,h2,h3,fun σ' hs hl γ k'=>by simp only [M.exec,optO];exact h4 σ' hs hl k'⟩
 | .opt none f,acc,k,r,h=>by simp [M.exec,optO] at h
 | .call g as f,acc,k,r,h=>by
  simp only [M.exec] at h
  obtain ⟨y,hy,h⟩:=Qag h
  obtain ⟨x,rs,h2,h3,h4⟩:=M.exec_local (f y) h
  exact ⟨x,rs,h2,h3,fun σ' hs hl γ k'=>by simp only [M.exec,hy,optO];exact h4 σ' hs hl k'⟩
 | .fail,acc,k,r,h=>by simp [M.exec] at h
theorem Qf4 {ops:Array Oper} (hg:o.guard=none):Region.wanted o (yielded ops a.tmps)=true:=by simp [Region.wanted,hg]
theorem Qon {ops:Array Oper} {j t:Nat} {want b:Bool} (hg:o.guard=some (j,want)) (ht:(ops.toList[j]?).bind (·.dst)=some t) (hv:a.tmps.getD t undef= .bool b):
  Region.wanted o (yielded ops a.tmps)=(b==want):=by
 have h1:(ops[j]?).bind (·.dst)=some t:=by simpa using ht
 have h2:a.tmps[t]?=some (.bool b):=by
  rw [Array.getD_eq_getD_getElem?] at hv
  cases hh:a.tmps[t]? with
  |none=>rw [hh] at hv;simp [undef] at hv
  |some v=>rw [hh] at hv;simpa using hv
 simp only [Region.wanted,hg,yielded,h1,Option.bind_some,h2]
 cases b<;>cases want<;>rfl
theorem Qts {ops:Array Oper} {j t:Nat} {want:Bool} (hg:o.guard=some (j,want)) (ht:(ops.toList[j]?).bind (·.dst)=some t) (hv:a.tmps.getD t undef=undef):
  Region.wanted o (yielded ops a.tmps)=false:=by
 have h1:(ops[j]?).bind (·.dst)=some t:=by simpa using ht
 rw [Array.getD_eq_getD_getElem?] at hv
 simp only [Region.wanted,hg,yielded,h1,Option.bind_some]
 cases hh:a.tmps[t]? with
 |none=>rfl
 |some v=>rw [hh] at hv;simp only [Option.getD_some] at hv;subst hv;rfl
theorem QmU {α:Type} (dflt:α):∀(l:List α) (t:Nat),setN l t (nthD dflt l t)=l
 | [],_=>rfl
 |_::_,0=>rfl
 |x::l,t+1=>by simp only [setN,nthD,QmU dflt l t]
def wpO (ρ:Option Nat) (ν:Nat) (P:Program) (ops:Array Oper) (Q:Exit→Act→World→Prop) (o:Oper) (K:Act→World→Prop) (a:Act) (w:World):Prop:=
 if Region.wanted o (yielded ops a.tmps) then o.wpIn (FR ρ) ν P a w K Q else K (a.put o.dst undef) w
def Qie (ZZ:List PanicEntry→Prop) (ρ:Option Nat) (ν:Nat) (P:Program) (B:Nat) (W0:Base) (d:Nat) (ops:Array Oper) (o:Oper) (σ:St) (D:Did):Prop:=
 ∀σ',Shape σ σ'→(∀l∈D.reads,Loc.same σ σ' l)→∀a w G,Sim P B W0 d σ' a w G→∀(K:Act→World→Prop) (Q:Exit→Act→World→Prop),PanQ ZZ B d w G Q→
  (∀a' w' G',Sim P B W0 d (Qau σ' D.writes) a' w' G'→Keeps B d w w' G G'→K a' w')→wpO ρ ν P ops Q o K a w
def Dies (ZZ:List PanicEntry→Prop) (ρ:Option Nat) (ν:Nat) (P:Program) (B:Nat) (W0:Base) (d:Nat) (ops:Array Oper) (o:Oper) (σ:St) (reads:List Loc):Prop:=
 ∀σ',Shape σ σ'→(∀l∈reads,Loc.same σ σ' l)→∀a w G,Sim P B W0 d σ' a w G→∀(K:Act→World→Prop) (Q:Exit→Act→World→Prop),PanQ ZZ B d w G Q→wpO ρ ν P ops Q o K a w
theorem QuL {ops:List Oper} {run skip:St→Option β} (h:Qj0 σ ops o run skip=some r):
  (o.guard=none∧run σ=some r)∨∃j want t,o.guard=some (j,want)∧(ops[j]?).bind (·.dst)=some t∧
   ((∃b,nthD .any σ.tmps t= .val (.bool b)∧((b=want∧run σ=some r)∨(b≠want∧skip σ=some r)))∨(nthD .any σ.tmps t= .undef∧skip σ=some r)):=by
 unfold Qj0 at h
 split at h
 ·rename_i hg
  exact .inl ⟨hg,h⟩
 ·rename_i j want hg
  refine .inr ⟨j,want, ?_⟩
  split at h
  ·rename_i t ht
   refine ⟨t,hg,ht, ?_⟩
   split at h
   ·rename_i v hv
    obtain ⟨b,hb,h⟩:=Qag h
    have:=Qea hb
    subst this
    have e:∀b',b=b'→({σ with tmps:=setN σ.tmps t (.val (.bool b'))}:St)=σ:=fun b' hb'=>by
     subst hb'
     rw [←hv,QmU]
    refine .inl ⟨b,hv, ?_⟩
    cases want<;>cases b<;>dsimp only [cond_true,cond_false] at h<;>rw [e _ rfl] at h
    ·exact .inl ⟨rfl,h⟩
    ·exact .inr ⟨by simp,h⟩
    ·exact .inr ⟨by simp,h⟩
    ·exact .inl ⟨rfl,h⟩
   ·rename_i hv;exact .inr ⟨hv,h⟩
   ·cases h
  ·cases h
end Go.Am
namespace Go.Am
open Go.RowKit
variable {P:Program} {B:Nat} {W0:Base} {d:Nat} {σ:St} {a:Act} {w:World} {G:Gh} {p:Nat→Nat→Bool}
theorem Qhn:∀(ts:List Nat) (l:List AV) (i:Nat),(Qg4 l ts).length=l.length∧(nthD .any (Qg4 l ts) i= .any∨nthD .any (Qg4 l ts) i=nthD .any l i)
 | [],l,i=>⟨rfl, .inr rfl⟩
 |t::ts,l,i=>by
  simp only [Qg4]
  obtain ⟨h1,h2⟩:=Qhn ts (setN l t .any) i
  refine ⟨by rw [h1,QaK], ?_⟩
  rcases h2 with h2|h2
  ·exact .inl h2
  ·rw [QaL] at h2
   split at h2
   ·exact .inl h2
   ·exact .inr h2
theorem Qp2:∀(ts:List Nat) (l:List (Option (List AV))) (i:Nat),nthD none (QmS l ts) i=if ts.contains i then none else nthD none l i
 | [],l,i=>by simp [QmS]
 |t::ts,l,i=>by
  simp only [QmS]
  rw [Qp2 ts,QaL]
  simp only [List.contains_cons]
  by_cases h:ts.contains i=true
  ·rw [h];simp
  ·by_cases e:i=t
   ·subst e
    simp
    intro _ hlt
    rw [Qar,List.getElem?_eq_none (by omega)];rfl
   ·simp [e]
theorem Fr.mapAny {tmps tmps':List AV} {t:Array Value} (F:Fr P w G d tmps t) (hl:tmps'.length=tmps.length) (h:∀i,nthD .any tmps' i= .any∨nthD .any tmps' i=(nthD .any tmps i).scrub p):Fr P w (G.drop p) d tmps' t:=by
 refine ⟨by rw [hl];exact F.len,fun i=> ?_⟩
 rcases h i with h|h
 ·rw [h];simp [ARep]
 ·rw [h];exact (F.rep i).scrub (by intro d s o h;cases h)
theorem Sim.clear (S:Sim P B W0 d σ a w G) (d0:Nat) (ts bs:List Nat) (hd:bs= []∨d0=d):∃G',Sim P B W0 d (clear d0 ts bs σ) a w G'∧Keeps B d w w G G':=by
 unfold Am.clear
 split
 ·refine ⟨G,⟨S.mem,S.depth,⟨by rw [(Qhn ts σ.tmps 0).1];exact S.fr.len,fun i=> ?_⟩,S.cfg,S.marks⟩,Keeps.refl _ _ _ _⟩
  rcases (Qhn ts σ.tmps i).2 with h|h
  ·rw [h];simp [ARep]
  ·rw [h];exact S.fr.rep i
 ·rename_i hne
  have hd:d0=d:=hd.resolve_left hne
  subst hd
  refine ⟨G.drop fun d' s=>d'==d0&&bs.contains s,⟨S.mem.drop fun d' s=> ?_,by simp [Qaw,QaK];exact S.depth,S.fr.mapAny (by simp [(Qhn ts σ.tmps 0).1]) fun i=> ?_,S.cfg,S.marks.of Qkr⟩,Keeps.drop fun d' s hlt=>by simp;intro e;omega⟩
  ·rw [box?_scrub]
   unfold Qbp box?
   rw [QaL]
   by_cases e:d'=d0
   ·subst e
    rw [if_pos ⟨rfl,by rw [S.depth];omega⟩,Qp2]
    by_cases hs:s∈bs
    ·simp [hs]
    ·simp [hs]
   ·simp [e]
  ·rcases (Qhn ts σ.tmps i).2 with h|h
   ·left
    rw [Qar] at h⊢
    rw [List.getElem?_map]
    cases hh:(Qg4 σ.tmps ts)[i]? with
    |none=>rfl
    |some x=>rw [hh] at h;simp at h;subst h;rfl
   ·right
    rw [←h]
    simp only [Qar,List.getElem?_map]
    cases (Qg4 σ.tmps ts)[i]?<;>rfl
theorem QvU (n:Nat) (f:List (Option (List AV))) (s:Nat):nthD none (QvN n f) s=nthD none f s:=by
 unfold QvN
 cases h:(f.drop n).all (fun b=>b.isNone) with
 |false=>rfl
 |true=>
  show nthD none (f.take n) s=_
  rw [Qar,Qar]
  by_cases hs:s<n
  ·rw [List.getElem?_take_of_lt hs]
  ·rw [List.getElem?_eq_none (by simp;omega)]
   cases hf:f[s]? with
   |none=>rfl
   |some b=>
    have hm:b∈f.drop n:=by
     refine List.mem_of_getElem? (i:=s-n) ?_
     rw [List.getElem?_drop,show n+(s-n)=s by omega,hf]
    have:=List.all_eq_true.1 h b hm
    cases b with
    |none=>rfl
    |some c=>simp at this
theorem box?_trimLast (n:Nat):∀(m:MemT) (d s:Nat),box? (Qj5 n m) d s=box? m d s
 | [],d,s=>rfl
 | [f],d,s=>by
  cases d with
  |zero=>exact QvU n f s
  |succ d=>rfl
 |f::g::r,d,s=>by
  cases d with
  |zero=>rfl
  |succ d=>exact box?_trimLast n (g::r) d s
theorem Qkl (n:Nat):∀m:MemT,(Qj5 n m).length=m.length
 | []=>rfl
 | [f]=>rfl
 |f::g::r=>by
  show (Qj5 n (g::r)).length+1=_
  rw [Qkl n (g::r)]
  rfl
theorem Mem.trim {mem mem':MemT} (M:Mem P B W0 w G mem) (h:∀d s,box? mem' d s=box? mem d s):Mem P B W0 w G mem':=
 ⟨M.below,M.base,M.own,M.hw,fun d s hb=>M.blk d s (by rw [←h];exact hb),fun d s cs hb=>M.box d s cs (by rw [←h];exact hb),M.inj,M.glob⟩
theorem Sim.trimTop (S:Sim P B W0 d σ a w G) (c:Code):Sim P B W0 d (trimTop c σ) a w G:=by
 unfold Am.trimTop
 split
 ·exact ⟨S.mem.trim (box?_trimLast _ _),(Qkl _ _).trans S.depth,S.fr,S.cfg,S.marks⟩
 ·exact S
theorem Sim.tidy (S:Sim P B W0 d σ a w G) (c:Code):∃G',Sim P B W0 d (tidy c σ) a w G'∧Keeps B d w w G G':=by
 unfold Am.tidy
 split
 ·obtain ⟨G',S',K'⟩:=S.clear 0 (Qfe c) [] (.inl rfl)
  exact ⟨G',S'.trimTop c,K'⟩
 ·exact ⟨G,S.trimTop c,Keeps.refl _ _ _ _⟩
end Go.Am
namespace Go.Am
open Go.RowKit
variable {P:Program} {B:Nat} {W0:Base} {d:Nat} {σ:St} {a:Act} {w:World} {G:Gh} {p:Nat→Nat→Bool}
theorem QoQ (d:Nat):∀(l:List (Option (List AV))) (k s:Nat),nthD none (Qiz p d k l) s=if p d (k+s) then none else (nthD none l s).map fun c=>c.map (AV.scrub p)
 | [],k,s=>by simp [Qiz,nthD]
 |b::r,k,0=>by
  simp only [Qiz,nthD,Nat.add_zero]
  cases p d k<;>simp
 |b::r,k,s+1=>by
  simp only [Qiz,nthD]
  rw [QoQ d r (k+1) s,show k+1+s=k+(s+1) by omega]
theorem Qnw:∀(m:MemT) (k d:Nat),nthD [] (QbD p k m) d=Qiz p (k+d) 0 (nthD [] m d)
 | [],k,d=>by simp [QbD,nthD,Qiz]
 |f::r,k,0=>by simp only [QbD,nthD,Nat.add_zero]
 |f::r,k,d+1=>by
  simp only [QbD,nthD]
  rw [Qnw r (k+1) d,show k+1+d=k+(d+1) by omega]
theorem box?_maskMem (m:MemT) (d s:Nat):box? (QbD p 0 m) d s=Qbp p m d s:=by
 unfold box? Qbp
 rw [Qnw,QoQ]
 simp only [Nat.zero_add]
 rfl
theorem QfK:∀(m:MemT) (k:Nat),(QbD p k m).length=m.length
 | [],_=>rfl
 |f::r,k=>by simp [QbD,QfK r]
theorem Qox:∀{a b:List (Option (List AV))},Qlh a b=true→∀s,(nthD none a s).isNone=(nthD none b s).isNone
 | [], [],_,_=>rfl
 | [],_::_,h,_=>by simp [Qlh] at h
 |_::_, [],h,_=>by simp [Qlh] at h
 |x::a,y::b,h,s=>by
  simp only [Qlh,Bool.and_eq_true,beq_iff_eq] at h
  cases s with
  |zero=>simpa [nthD] using h.1
  |succ s=>simpa [nthD] using Qox h.2 s
theorem QhZ:∀{a b:MemT},QgF a b=true→∀d s,(box? a d s).isNone=(box? b d s).isNone
 | [], [],_,_,_=>rfl
 | [],_::_,h,_,_=>by simp [QgF] at h
 |_::_, [],h,_,_=>by simp [QgF] at h
 |x::a,y::b,h,d,s=>by
  simp only [QgF,Bool.and_eq_true] at h
  cases d with
  |zero=>simpa [box?,nthD] using Qox h.1 s
  |succ d=>simpa [box?,nthD] using QhZ h.2 d s
def Gh.mask (G:Gh) (p:Nat→Nat→Bool):Gh:=
 {blk:=fun d s=>if p d s then none else G.blk d s,hw:=G.hw,own:=fun b=>match G.own b with
  |some (.cell d s o)=>if p d s then none else some (.cell d s o)
  |x=>x,lo:=G.lo}
theorem Qmi {b d s o:Nat} (h:G.own b=some (.cell d s o)):(G.mask p).own b=if p d s then none else some (.cell d s o):=by
 simp only [Gh.mask,h]
theorem Qlj {b:Nat} (h:∀d s o,G.own b≠some (.cell d s o)):(G.mask p).own b=G.own b:=by
 unfold Gh.mask
 cases hb:G.own b with
 |none=>simp [hb]
 |some q=>cases q with
  |cell d s o=>exact absurd hb (h _ _ _)
  |_=>simp [hb]
theorem Qf9 {b:Nat} {q:Place} (h:(G.mask p).own b=some q):G.own b=some q:=by
 simp only [Gh.mask] at h
 split at h
 ·rename_i e
  split at h
  ·cases h
  ·rw [e];exact h
 ·exact h
theorem QkI {q:Place} (hq:∀d s o,q= .cell d s o→p d s=false):Same q w w (G.drop p) (G.mask p):=by
 refine ⟨Keep.refl _ _,fun _ _ _ h=>h,fun b hb=>⟨?_,rfl,rfl⟩⟩
 have hb:G.own b=some q:=hb
 by_cases hc:∃d s o,q= .cell d s o
 ·obtain ⟨d,s,o,rfl⟩:=hc
  rw [Qmi hb,if_neg (by rw [hq d s o rfl];simp)]
 ·rw [Qlj fun d s o e=>hc ⟨d,s,o,Option.some.inj (hb.symm.trans e)⟩,hb]
theorem Mem.mask {mem mem1:MemT} (M:Mem P B W0 w G mem) (h:∀d s,box? mem1 d s=Qbp p mem d s):Mem P B W0 w (G.mask p) mem1:=by
 have M1:=M.drop h
 refine ⟨M1.below,M1.base,fun b q hq=>M.own b q (Qf9 hq),M1.hw,M1.blk,fun d s cs hb=> ?_,M1.inj,M1.glob⟩
 obtain ⟨b,vs,T,fz,R⟩:=M1.box d s cs hb
 have hp:p d s=false:=by
  have:=h d s
  rw [hb] at this
  unfold Qbp at this
  cases hp:p d s with
  |false=>rfl
  |true=>rw [hp] at this;simp at this
 refine ⟨b,vs,T,fz,R.blk,R.lo,R.heap,R.free,R.hw, ?_,⟨R.rep.len,fun o ho=> ?_⟩⟩
 ·cases ho:(G.mask p).own b with
  |none=>rfl
  |some q=>have:=R.own;rw [show (G.drop p).own b=G.own b from rfl,Qf9 ho] at this;cases this
 ·obtain ⟨u,q1,q2,q3⟩:=R.rep.rep o ho
  exact ⟨u,q1,q2,ARep.same (QkI fun d' s' o' e=>by cases e;exact hp) (QkI fun d' s' o' e=>by cases e) _ q3⟩
def Gh.back (G:Gh) (p:Nat→Nat→Bool) (G':Gh):Gh:=
 {blk:=fun d s=>if p d s then G.blk d s else G'.blk d s,hw:=G'.hw,own:=fun b=>match G.own b with
  |some (.cell d s o)=>if p d s then some (.cell d s o) else G'.own b
  |_=>G'.own b,lo:=G'.lo}
theorem Qgw {b:Nat} {G':Gh}:(∃d s o,G.own b=some (.cell d s o)∧p d s=true∧(G.back p G').own b=some (.cell d s o))∨((∀d s o,G.own b=some (.cell d s o)→p d s=false)∧(G.back p G').own b=G'.own b):=by
 simp only [Gh.back]
 split
 ·rename_i d s o e
  cases hp:p d s with
  |true=>exact .inl ⟨d,s,o,e,hp,by simp⟩
  |false=>exact .inr ⟨fun d' s' o' e'=>by rw [e] at e';cases e';exact hp,by simp⟩
 ·rename_i hn
  exact .inr ⟨fun d s o e=>absurd e (hn d s o),rfl⟩
theorem Mem.aside {mem:MemT} (M:Mem P B W0 w G mem):(∀b d s o,G.own b=some (.cell d s o)→p d s=true→Free (G.mask p) b)∧(∀b d s,G.blk d s=some b→p d s=true→Free (G.mask p) b):=by
 refine ⟨fun b d s o h hp=>⟨by rw [Qmi h,if_pos hp],fun d' s' hb=> ?_⟩,fun b d s h hp=>⟨?_,fun d' s' hb=> ?_⟩⟩
 ·simp only [Gh.mask] at hb
  split at hb
  ·cases hb
  ·obtain ⟨_,_,_,_,_,R⟩:=M.blk_box hb
   rw [R.own] at h;cases h
 ·obtain ⟨_,_,_,_,_,R⟩:=M.blk_box h
  cases ho:(G.mask p).own b with
  |none=>rfl
  |some q=>rw [←Qf9 ho,R.own]
 ·simp only [Gh.mask] at hb
  split at hb
  ·cases hb
  ·rename_i hn
   obtain ⟨rfl,rfl⟩:=M.inj _ _ _ _ _ h hb
   exact hn hp
section
variable {mem mem1 mem' m2:MemT} {w':World} {G':Gh} {D:Nat}
theorem Qw4 (M:Mem P B W0 w G mem) {d s b:Nat} (h:G.blk d s=some b):d<mem.length:=by
 refine Decidable.byContradiction fun hn=> ?_
 obtain ⟨_,_,_,_,hb,_⟩:=M.blk_box h
 unfold box? at hb
 rw [Qar [],List.getElem?_eq_none (by omega)] at hb
 simp [nthD] at hb
theorem QgN (M:Mem P B W0 w G mem) (hD:mem.length=D) (K:Keeps B D w w' (G.mask p) G') {q:Place} (hq:(∃d i,q= .tmp d i∧d<D)∨q= .none∨∃d s o,q= .cell d s o∧p d s=true):
  Same q w w' G (G.back p G'):=by
 obtain ⟨A1,A2⟩:=M.aside (p:=p)
 refine ⟨K.keep,fun d s b hb=> ?_,fun b hb=> ?_⟩
 ·simp only [Gh.back]
  cases hp:p d s with
  |true=>simpa using hb
  |false=>
   simp only [Bool.false_eq_true,if_false]
   exact K.blk d s b (by rw [←hD];exact Qw4 M hb) (by simp [Gh.mask,hp,hb])
 ·rcases hq with ⟨d,i,rfl,hlt⟩|rfl|⟨d,s,o,rfl,hp⟩
  ·have hm:(G.mask p).own b=some (.tmp d i):=by rw [Qlj (fun d s o e=>by rw [hb] at e;cases e),hb]
   obtain ⟨h1,h2,h3⟩:=K.own b d i hlt hm
   refine ⟨?_,h2,h3⟩
   rcases Qgw (G:=G) (p:=p) (G':=G') (b:=b) with ⟨_,_,_,e,_⟩|⟨_,e⟩
   ·rw [hb] at e;cases e
   ·rw [e,h1]
  ·exact (M.noNone b hb).elim
  ·obtain ⟨_,h2,h3⟩:=K.rest b (M.own b _ hb).2.1 (A1 b d s o hb hp)
   refine ⟨?_,h2,h3⟩
   rcases Qgw (G:=G) (p:=p) (G':=G') (b:=b) with ⟨_,_,_,e,_,e2⟩|⟨e,_⟩
   ·rw [e2,←e,hb]
   ·rw [e d s o hb] at hp;cases hp
theorem QtL (M':Mem P B W0 w' G' mem') (hn:∀d s,p d s=true→box? mem' d s=none) {d s b:Nat} (h:G'.blk d s=some b):p d s=false∧(G.back p G').blk d s=some b:=by
 cases hp:p d s with
 |true=>rw [M'.blk d s (hn d s hp)] at h;cases h
 |false=>exact ⟨rfl,by simp [Gh.back,hp,h]⟩
theorem QnW (M:Mem P B W0 w G mem) (M':Mem P B W0 w' G' mem') (hn:∀d s,p d s=true→box? mem' d s=none) (K:Keeps B D w w' (G.mask p) G') (q:Place):Same q w' w' G' (G.back p G'):=by
 obtain ⟨A1,A2⟩:=M.aside (p:=p)
 refine ⟨Keep.refl _ _,fun d s b hb=>(QtL M' hn hb).2,fun b hb=>⟨?_,rfl,rfl⟩⟩
 rcases Qgw (G:=G) (p:=p) (G':=G') (b:=b) with ⟨d,s,o,e,hp,_⟩|⟨_,e⟩
 ·obtain ⟨h1,_,_⟩:=K.rest b (M.own b _ e).2.1 (A1 b d s o e hp)
  rw [h1.1] at hb;cases hb
 ·rw [e,hb]
theorem Mem.back (M:Mem P B W0 w G mem) (hD:mem.length=D) (M':Mem P B W0 w' G' mem') (hn:∀d s,p d s=true→box? mem' d s=none) (K:Keeps B D w w' (G.mask p) G')
  (h2:∀d s,box? m2 d s=if p d s then box? mem d s else box? mem' d s):Mem P B W0 w' (G.back p G') m2:=by
 obtain ⟨A1,A2⟩:=M.aside (p:=p)
 refine ⟨M'.below,M'.base,fun b q hq=> ?_,M'.hw,fun d s hb=> ?_,fun d s cs hb=> ?_,fun d s d' s' b h h'=> ?_,M'.glob⟩
 ·rcases Qgw (G:=G) (p:=p) (G':=G') (b:=b) with ⟨d,s,o,e,_,e2⟩|⟨_,e⟩
  ·rw [e2,←e] at hq
   have:=M.own b q hq
   exact ⟨this.1,Nat.lt_of_lt_of_le this.2.1 K.below.size,this.2.2⟩
  ·rw [e] at hq;exact M'.own b q hq
 ·rw [h2] at hb
  simp only [Gh.back]
  cases hp:p d s with
  |true=>rw [hp] at hb;simp only [if_true] at hb⊢;exact M.blk d s hb
  |false=>rw [hp] at hb;simp only [Bool.false_eq_true,if_false] at hb⊢;exact M'.blk d s hb
 ·rw [h2] at hb
  cases hp:p d s with
  |true=>
   rw [hp] at hb
   simp only [if_true] at hb
   obtain ⟨b,vs,T,fz,R⟩:=M.box d s cs hb
   have hlt:b<w.heap.size:=R.lt
   obtain ⟨f1,f2,f3⟩:=K.rest b hlt (A2 b d s R.blk hp)
   refine ⟨b,vs,T,fz,by simp [Gh.back,hp,R.blk],R.lo,by rw [f3];exact R.heap,R.free,f2.trans R.hw, ?_,⟨R.rep.len,fun o ho=> ?_⟩⟩
   ·rcases Qgw (G:=G) (p:=p) (G':=G') (b:=b) with ⟨_,_,_,e,_⟩|⟨_,e⟩
    ·rw [R.own] at e;cases e
    ·rw [e];exact f1.1
   ·obtain ⟨u,q1,q2,q3⟩:=R.rep.rep o ho
    exact ⟨u,q1,q2,ARep.same (QgN M hD K (.inr (.inr ⟨d,s,o,rfl,hp⟩))) (QgN M hD K (.inr (.inl rfl))) _ q3⟩
  |false=>
   rw [hp] at hb
   simp only [Bool.false_eq_true,if_false] at hb
   obtain ⟨b,vs,T,fz,R⟩:=M'.box d s cs hb
   refine ⟨b,vs,T,fz,(QtL M' hn R.blk).2,R.lo,R.heap,R.free,R.hw, ?_,⟨R.rep.len,fun o ho=> ?_⟩⟩
   ·rcases Qgw (G:=G) (p:=p) (G':=G') (b:=b) with ⟨d',s',o',e,hp',_⟩|⟨_,e⟩
    ·obtain ⟨f1,_,_⟩:=K.rest b (M.own b _ e).2.1 (A1 b d' s' o' e hp')
     exact absurd R.blk (f1.2 d s)
    ·rw [e];exact R.own
   ·obtain ⟨u,q1,q2,q3⟩:=R.rep.rep o ho
    exact ⟨u,q1,q2,ARep.same (QnW M M' hn K _) (QnW M M' hn K _) _ q3⟩
 ·have cross:∀{d s d' s'},p d s=true→p d' s'=false→G.blk d s=some b→G'.blk d' s'=some b→False:=by
   intro d s d' s' hp _ h h'
   obtain ⟨_,_,_,_,_,R⟩:=M.blk_box h
   have hlt:=R.lt
   exact (K.rest b hlt (A2 b d s h hp)).1.2 d' s' h'
  simp only [Gh.back] at h h'
  cases hp:p d s<;>cases hp':p d' s'<;>simp only [hp,hp',if_true,Bool.false_eq_true,if_false] at h h'
  ·exact M'.inj _ _ _ _ _ h h'
  ·exact (cross hp' hp h' h).elim
  ·exact (cross hp hp' h h').elim
  ·exact M.inj _ _ _ _ _ h h'
theorem Keeps.back (M:Mem P B W0 w G mem) (hD:mem.length=D) (K:Keeps B D w w' (G.mask p) G'):Keeps B D w w' G (G.back p G'):=by
 refine ⟨K.keep,fun b d i hd h=>(QgN M hD K (.inl ⟨d,i,rfl,hd⟩)).own b h,fun d s b _ h=>(QgN M hD K (.inr (.inl rfl))).blk d s b h,K.below,K.low,fun b hlt hf=> ?_,K.lo⟩
 have hfm:Free (G.mask p) b:=by
  refine ⟨?_,fun d s h=> ?_⟩
  ·cases ho:(G.mask p).own b with
   |none=>rfl
   |some q=>rw [←Qf9 ho,hf.1]
  ·simp only [Gh.mask] at h
   split at h
   ·cases h
   ·exact hf.2 d s h
 obtain ⟨h1,h2,h3⟩:=K.rest b hlt hfm
 refine ⟨⟨?_,fun d s h=> ?_⟩,h2,h3⟩
 ·rcases Qgw (G:=G) (p:=p) (G':=G') (b:=b) with ⟨_,_,_,e,_⟩|⟨_,e⟩
  ·rw [hf.1] at e;cases e
  ·rw [e];exact h1.1
 ·simp only [Gh.back] at h
  split at h
  ·exact hf.2 d s h
  ·exact h1.2 d s h
end
theorem Qwv {a b:AV} (h:Qtz a b=true):a=b:=by
 unfold Qtz at h
 split at h<;>simp_all
theorem QpU:∀{a b:List AV},QhF a b=true→a=b
 | [], [],_=>rfl
 | [],_::_,h=>by simp [QhF] at h
 |_::_, [],h=>by simp [QhF] at h
 |x::a,y::b,h=>by
  simp only [QhF,Bool.and_eq_true] at h
  rw [Qwv h.1,QpU h.2]
theorem Qma {fl:Bool} {m m':MemT}:∀(T:List (Nat×Nat)) (σ:St),(∀q∈T,∃c0 c,box? m q.1 q.2=some c0∧box? m' q.1 q.2=some c)→(∀q∈T,box? σ.mem q.1 q.2=box? m q.1 q.2∨box? σ.mem q.1 q.2=box? m' q.1 q.2)→
  (Qau σ (Qdw fl m m' T)).tmps=σ.tmps∧(Qau σ (Qdw fl m m' T)).K=σ.K∧(Qau σ (Qdw fl m m' T)).mem.length=σ.mem.length∧
   ∀d s,box? (Qau σ (Qdw fl m m' T)).mem d s=if T.contains (d,s) then box? m' d s else box? σ.mem d s
 | [],σ,_,_=>⟨rfl,rfl,rfl,fun d s=>by simp [Qdw,Qau]⟩
 |q::T,σ,h1,h2=>by
  obtain ⟨c0,c,e0,e1⟩:=h1 q (by simp)
  have h1':=fun q hq=>h1 q (List.mem_cons_of_mem _ hq)
  simp only [Qdw,e0,e1]
  cases hs:(!fl&&QhF c0 c) with
  |true=>
   simp only [List.nil_append]
   obtain ⟨r1,r2,r3,r4⟩:=Qma T σ h1' fun q hq=>h2 q (List.mem_cons_of_mem _ hq)
   refine ⟨r1,r2,r3,fun d s=> ?_⟩
   rw [r4]
   by_cases hT:T.contains (d,s)=true
   ·rw [if_pos hT,if_pos (by simp at hT;simp [hT])]
   ·rw [if_neg hT]
    by_cases hq:(d,s)=q
    ·subst hq
     rw [if_pos (by simp)]
     rcases h2 (d,s) (by simp) with h|h
     ·rw [h,e0,e1,QpU (Bool.and_eq_true_iff.1 hs).2]
     ·exact h
    ·rw [if_neg (by simp at hT;simp [hT,hq])]
  |false=>
   simp only [List.cons_append,List.nil_append,Qau]
   have hsome:∃c',box? σ.mem q.1 q.2=some c':=by
    rcases h2 q (by simp) with h|h
    ·exact ⟨c0,by rw [h,e0]⟩
    ·exact ⟨c,by rw [h,e1]⟩
   obtain ⟨c',hc'⟩:=hsome
   have hbx:∀d s,box? (W.apply σ (.box q.1 q.2 c)).mem d s=if (d,s)=q then some c else box? σ.mem d s:=by
    intro d s
    simp only [W.apply]
    have hlt:q.1<σ.mem.length∧q.2<(nthD [] σ.mem q.1).length:=by
     unfold box? at hc'
     refine ⟨Decidable.byContradiction fun hn=> ?_,Decidable.byContradiction fun hn=> ?_⟩
     ·rw [Qar [] σ.mem,List.getElem?_eq_none (by omega)] at hc';simp [nthD] at hc'
     ·rw [Qar none,List.getElem?_eq_none (by omega)] at hc';simp at hc'
    unfold box? QaI
    rw [QaL]
    by_cases h:d=q.1
    ·rw [if_pos ⟨h,hlt.1⟩,QaL]
     by_cases h':s=q.2
     ·rw [if_pos ⟨h',hlt.2⟩,if_pos (by rw [h,h'])]
     ·rw [if_neg (fun e=>h' e.1),if_neg (by intro e;apply h';rw [←e]),h]
    ·rw [if_neg (fun e=>h e.1),if_neg (by intro e;apply h;rw [←e])]
   obtain ⟨r1,r2,r3,r4⟩:=Qma T (W.apply σ (.box q.1 q.2 c)) h1' fun q' hq'=>by
    rw [hbx]
    by_cases e:(q'.1,q'.2)=q
    ·rw [if_pos e]
     refine .inr ?_
     have:q'=q:=e
     rw [this,e1]
    ·rw [if_neg e];exact h2 q' (List.mem_cons_of_mem _ hq')
   refine ⟨r1,r2,by rw [r3];simp [W.apply,QaI,QaK],fun d s=> ?_⟩
   rw [r4]
   by_cases hT:T.contains (d,s)=true
   ·rw [if_pos hT,if_pos (by simp at hT;simp [hT])]
   ·rw [if_neg hT,hbx]
    by_cases hq:(d,s)=q
    ·subst hq
     rw [if_pos rfl,if_pos (by simp),e1]
    ·rw [if_neg hq,if_neg (by simp at hT;simp [hT,hq])]
theorem Qii {m:MemT}:∀(l S:List (Nat×Nat)),(∀q∈S,∃c,box? m q.1 q.2=some c)→∀q∈Qlm m S l,∃c,box? m q.1 q.2=some c
 | [],S,h,q,hq=>h q hq
 |x::l,S,h,q,hq=>by
  unfold Qlm at hq
  refine Qii l _ (fun q' hq'=> ?_) q hq
  split at hq'
  ·exact h q' hq'
  ·rename_i hx
   rw [Bool.or_eq_false_iff] at hx
   rcases List.mem_append.1 hq' with hq'|hq'
   ·exact h q' hq'
   ·simp only [List.mem_singleton] at hq'
    subst hq'
    cases hb:box? m q'.1 q'.2 with
    |none=>rw [hb] at hx;simp at hx
    |some c=>exact ⟨c,rfl⟩
theorem Qp9 {m:MemT} {vs:List AV}:∀q∈Qkt m vs,∃c,box? m q.1 q.2=some c:=
 Qii _ _ (Qii _ _ (Qii _ _ fun q hq=>by cases hq))
theorem Qoq {σ σ':St} {S:List (Nat×Nat)} (h:∀l∈QnZ σ.mem S,Loc.same σ σ' l) {q:Nat×Nat} (hq:q∈S) (hs:∃c,box? σ.mem q.1 q.2=some c):box? σ'.mem q.1 q.2=box? σ.mem q.1 q.2:=by
 obtain ⟨c,hc⟩:=hs
 obtain ⟨h0,hrow⟩:(box? σ'.mem q.1 q.2).isNone=(box? σ.mem q.1 q.2).isNone∧QbV σ'.mem q.1 q.2=QbV σ.mem q.1 q.2:=h (.box q.1 q.2) (List.mem_flatMap.2 ⟨q,hq,by simp⟩)
 have hcell:∀i,i≤c.length→Loc.same σ σ' (.cell q.1 q.2 i):=fun i hi=>h _ (List.mem_flatMap.2 ⟨q,hq,by rw [hc];simp;omega⟩)
 cases hc':box? σ'.mem q.1 q.2 with
 |none=>rw [hc,hc'] at h0;simp at h0
 |some c'=>
  rw [hc]
  have rows:∀{m:MemT} {x:List AV},box? m q.1 q.2=some x→Qaz x=true→∃e l,x= [.row e l]∧QbV m q.1 q.2= .row e l:=fun {m x} hx hr=>by
   obtain ⟨e,l,rfl⟩:=Qc8 hr
   exact ⟨e,l,rfl,by simp [QbV,hx]⟩
  have rows':∀{m:MemT} {x:List AV},box? m q.1 q.2=some x→Qaz x=false→QbV m q.1 q.2= .any:=fun {m x} hx hr=>by
   unfold QbV
   split
   ·rename_i hx'
    rw [hx] at hx'
    cases hx'
    simp [Qaz] at hr
   ·rfl
  cases hr:Qaz c with
  |true=>
   obtain ⟨e,l,rfl,h1⟩:=rows hc hr
   rw [h1] at hrow
   cases hr':Qaz c' with
   |true=>
    obtain ⟨e',l',rfl,h2⟩:=rows hc' hr'
    rw [h2] at hrow
    cases hrow
    rfl
   |false=>rw [rows' hc' hr'] at hrow;cases hrow
  |false=>
  have hr':Qaz c'=false:=by
   cases hr':Qaz c' with
   |false=>rfl
   |true=>
    obtain ⟨e',l',rfl,h2⟩:=rows hc' hr'
    rw [rows' hc hr,h2] at hrow
    cases hrow
  have has:∀i,i≤c.length→(i<c'.length↔i<c.length):=fun i hi=>by
   have:=(hcell i hi).1
   simp only [St.has,hc,hc',QrZ hr,QrZ hr'] at this
   simpa using this
  have hlen:c'.length=c.length:=by
   have h1:=has c.length (Nat.le_refl _)
   have h2:∀k,k≤c.length→k≤c'.length:=by
    intro k
    induction k with
    |zero=>intro _;omega
    |succ k ih=>intro hk;have:=(has k (by omega)).2 (by omega);omega
   have:=h2 c.length (Nat.le_refl _)
   omega
  congr 1
  refine List.ext_getElem hlen fun i h1 h2=> ?_
  have:=(hcell i (by omega)).2
  simp only [Qbm,hc,hc',Qar] at this
  simpa [h1,h2] using this
end Go.Am
set_option linter.unusedVariables false
namespace Go.Am
open Go.RowKit
variable {P:Program} {B:Nat} {W0:Base} {w:World} {G:Gh} {m:MemT} {d base:Nat} {L:List Nat}
theorem Qsg:∀{L:List Nat} {s i k:Nat},Qef s i L=some k→∃j,k=i+j∧L[j]?=some s
 | [],_,_,_,h=>by cases h
 |x::r,s,i,k,h=>by
  unfold Qef at h
  split at h
  ·rename_i hx
   have hx:x=s:=by simpa using hx
   exact ⟨0,by simpa using (Option.some.inj h).symm,by simp [hx]⟩
  ·obtain ⟨j,h1,h2⟩:=Qsg h
   exact ⟨j+1,by omega,by simpa using h2⟩
theorem QvF {s k:Nat} (h:Qef s 0 L=some k):L[k]?=some s:=by
 obtain ⟨j,h1,h2⟩:=Qsg h
 rw [h1,Nat.zero_add];exact h2
theorem Qtk:∀{L:List Nat} {s i j:Nat},L[j]?=some s→(∀k,k<j→L[k]?≠some s)→Qef s i L=some (i+j)
 | [],_,_,_,h,_=>by simp at h
 |x::r,s,i,0,h,_=>by
  have:x=s:=by simpa using h
  simp [Qef,this]
 |x::r,s,i,j+1,h,hn=>by
  have hx:¬x=s:=fun e=>hn 0 (by omega) (by simp [e])
  have hx:(x==s)=false:=by simpa using hx
  unfold Qef
  simp only [hx]
  rw [Qtk (j:=j) (by simpa using h) fun k hk=>by have:=hn (k+1) (by omega);simpa using this]
  congr 1
  omega
theorem Qjz:∀{f:List (Option (List AV))} {i s:Nat},s∈Qa7 i f→i≤s
 | [],_,_,h=>by simp [Qa7] at h
 |b::r,i,s,h=>by
  unfold Qa7 at h
  split at h
  ·rcases List.mem_cons.1 h with rfl|h
   ·exact Nat.le_refl _
   ·have:=Qjz h;omega
  ·have:=Qjz h;omega
theorem Qmq:∀{f:List (Option (List AV))} {i s:Nat} {c:List AV},nthD none f s=some c→i+s∈Qa7 i f
 | [],_,_,_,h=>by simp [nthD] at h
 |b::r,i,0,c,h=>by
  simp only [nthD] at h
  subst h
  simp [Qa7]
 |b::r,i,s+1,c,h=>by
  simp only [nthD] at h
  have:=Qmq (i:=i+1) h
  have e:i+1+s=i+(s+1):=by omega
  rw [e] at this
  unfold Qa7
  split
  ·exact List.mem_cons_of_mem _ this
  ·exact this
theorem Qhb:∀{f:List (Option (List AV))} {i:Nat},(Qa7 i f).Nodup
 | [],_=>by simp [Qa7]
 |b::r,i=>by
  unfold Qa7
  split
  ·refine List.nodup_cons.2 ⟨fun h=> ?_,Qhb⟩
   have:=Qjz h;omega
  ·exact Qhb
theorem Qmr {f:List (Option (List AV))} {i s:Nat} (h:(Qa7 0 f)[i]?=some s):Qef s 0 (Qa7 0 f)=some i:=by
 have hn:(Qa7 0 f).Nodup:=Qhb
 have:=Qtk (i:=0) h fun k hk hks=>by
  obtain ⟨h1,h2⟩:=List.getElem?_eq_some_iff.1 h
  obtain ⟨h3,h4⟩:=List.getElem?_eq_some_iff.1 hks
  exact List.pairwise_iff_getElem.1 hn k i h3 h1 hk (h4.trans h2.symm)
 rw [Nat.zero_add] at this;exact this
theorem QsD {f:List (Option (List AV))} {s:Nat} {c:List AV} (h:nthD none f s=some c):∃i,Qef s 0 (Qa7 0 f)=some i:=by
 have:=Qmq (i:=0) h
 rw [Nat.zero_add] at this
 obtain ⟨i,hi⟩:=List.getElem?_of_mem this
 exact ⟨i,Qmr hi⟩
def plc (d base:Nat) (L:List Nat):Place→Place
 | .cell d0 s0 o=>if d0=d+1 then (match Qef s0 0 L with|some i=> .cell d (base+i) o|none=> .cell d0 s0 o) else .cell d0 s0 o
 |p=>p
def Gh.lift (G:Gh) (d base:Nat) (L:List Nat):Gh:=
 {
  blk:=fun d' s=>if d'=d∧base≤s then (match L[s-base]? with|some s0=>G.blk (d+1) s0|none=>none) else if d'=d+1 then none else G.blk d' s,
  hw:=G.hw,own:=fun b=>(G.own b).map (plc d base L),lo:=G.lo}
structure LiftOK (G:Gh) (d base:Nat) (L:List Nat):Prop where
 low:∀s b,G.blk d s=some b→s<base
 has:∀s b,G.blk (d+1) s=some b→∃i,Qef s 0 L=some i
 idx:∀i s,L[i]?=some s→Qef s 0 L=some i
theorem Qtp:plc d base L .none= .none:=rfl
theorem QzK {p:Place} (h:p≠ .none):plc d base L p≠ .none:=by
 cases p with
 |none=>exact absurd rfl h
 |tmp d' i=>simp [plc]
 |cell d0 s0 o=>
  show (if d0=d+1 then (match Qef s0 0 L with|some i=>Place.cell d (base+i) o|none=> .cell d0 s0 o) else .cell d0 s0 o)≠ .none
  by_cases hd:d0=d+1
  ·rw [if_pos hd]
   cases Qef s0 0 L<;>simp
  ·rw [if_neg hd];simp
theorem QdS {d' s b:Nat} (H:LiftOK G d base L) (hd:d'≠d+1) (h:G.blk d' s=some b):(G.lift d base L).blk d' s=some b:=by
 simp only [Gh.lift]
 rw [if_neg,if_neg hd,h]
 rintro ⟨rfl,h2⟩
 have:=H.low s b h
 omega
theorem Qek {s b i:Nat} (hi:Qef s 0 L=some i) (h:G.blk (d+1) s=some b):(G.lift d base L).blk d (base+i)=some b:=by
 show (if d=d∧base≤base+i then (match L[base+i-base]? with|some s0=>G.blk (d+1) s0|none=>none) else if d=d+1 then none else G.blk d (base+i))=some b
 rw [if_pos ⟨rfl,by omega⟩]
 have e:base+i-base=i:=by omega
 simp only [e,QvF hi,h]
theorem QjV {d' s b:Nat} (h:(G.lift d base L).blk d' s=some b):(d'=d∧base≤s∧∃s0,L[s-base]?=some s0∧G.blk (d+1) s0=some b)∨(¬(d'=d∧base≤s)∧d'≠d+1∧G.blk d' s=some b):=by
 simp only [Gh.lift] at h
 split at h
 ·rename_i hc
  split at h
  ·rename_i s0 hs
   exact .inl ⟨hc.1,hc.2,s0,hs,h⟩
  ·cases h
 ·rename_i hc
  split at h
  ·cases h
  ·rename_i hd
   exact .inr ⟨hc,hd,h⟩
mutual
theorem ARep.ren (H:LiftOK G d base L) {p:Place}:∀(a:AV) {v:Value},ARep P w G p a v→ARep P w (G.lift d base L) (plc d base L p) (a.ren (renP (d+1) base L)) v
 | .any,_,_=>by simp [AV.ren,ARep]
 | .undef,_,x=>by simpa [AV.ren,ARep] using x
 | .val c,v,x=>by simp only [AV.ren,ARep] at x⊢;exact x
 | .lst own isnil e l,v,x=>by
  simp only [AV.ren,ARep] at x⊢
  rcases x with x|⟨h1,b,off,cap,h2,h3,h4,h5,h6,h7⟩
  ·exact .inl x
  ·refine .inr ⟨h1,b,off,cap,h2,h3,h4,h5,h6, ?_⟩
   rcases h7 with h7|⟨h7,q1,q2⟩
   ·exact .inl h7
   ·exact .inr ⟨h7,by simp [Gh.lift,q1],q2⟩
 | .ptr d0 s0 off,v,x=>by
  simp only [ARep] at x
  obtain ⟨b,h1,h2⟩:=x
  simp only [AV.ren,renP]
  by_cases hd:d0=d+1
  ·subst hd
   obtain ⟨i,hi⟩:=H.has s0 b h1
   simp only [beq_self_eq_true,hi,Option.map_some,Nat.add_sub_cancel,ARep]
   exact ⟨b,Qek hi h1,h2⟩
  ·have hd':(d0==d+1)=false:=by simpa using hd
   simp only [hd',ARep]
   exact ⟨b,QdS H hd h1,h2⟩
 | .mpp d0 s0,v,x=>by
  simp only [ARep] at x
  obtain ⟨b,h1,h2⟩:=x
  simp only [AV.ren,renP]
  by_cases hd:d0=d+1
  ·subst hd
   obtain ⟨i,hi⟩:=H.has s0 b h1
   simp only [beq_self_eq_true,hi,Option.map_some,Nat.add_sub_cancel,ARep]
   exact ⟨b,Qek hi h1,h2⟩
  ·have hd':(d0==d+1)=false:=by simpa using hd
   simp only [hd',ARep]
   exact ⟨b,QdS H hd h1,h2⟩
 | .cptr c off,v,x=>by simp only [AV.ren,ARep] at x⊢;exact x
 | .siter s pos,v,x=>by
  simp only [AV.ren,ARep] at x⊢
  obtain ⟨b,h1,h2,h3⟩:=x
  exact ⟨b,h1,by simp [Gh.lift,h2],h3⟩
 | .bld T,v,x=>by
  simp only [AV.ren,ARep] at x⊢
  obtain ⟨d0,s0,b,rfl,h2,h3⟩:=x
  by_cases hd:d0=d+1
  ·subst hd
   obtain ⟨i,hi⟩:=H.has s0 b h2
   exact ⟨d,base+i,b,by simp [plc,hi],Qek hi h2,h3⟩
  ·exact ⟨d0,s0,b,by simp [plc,hd],QdS H hd h2,h3⟩
 | .row e l,v,x=>by simp [ARep] at x
 | .rsl e d0 s0 off len cap,v,x=>by
  simp only [ARep] at x
  obtain ⟨b,ad,c,q,h1,h2⟩:=x
  simp only [AV.ren,renP]
  by_cases hd:d0=d+1
  ·subst hd
   obtain ⟨i,hi⟩:=H.has s0 b h1
   simp only [beq_self_eq_true,hi,Option.map_some,Nat.add_sub_cancel,ARep]
   exact ⟨b,ad,c,q,Qek hi h1,h2⟩
  ·have hd':(d0==d+1)=false:=by simpa using hd
   simp only [hd',ARep]
   exact ⟨b,ad,c,q,QdS H hd h1,h2⟩
 | .rptr e d0 s0 i0 off,v,x=>by
  simp only [ARep] at x
  obtain ⟨b,h1,h2⟩:=x
  simp only [AV.ren,renP]
  by_cases hd:d0=d+1
  ·subst hd
   obtain ⟨i,hi⟩:=H.has s0 b h1
   simp only [beq_self_eq_true,hi,Option.map_some,Nat.add_sub_cancel,ARep]
   exact ⟨b,Qek hi h1,h2⟩
  ·have hd':(d0==d+1)=false:=by simpa using hd
   simp only [hd',ARep]
   exact ⟨b,QdS H hd h1,h2⟩
 | .clo f caps,v,x=>by
  simp only [AV.ren,ARep] at x⊢
  obtain ⟨vs,h1,h2⟩:=x
  exact ⟨vs,h1,ARepL.ren H caps h2⟩
 | .agg cs,v,x=>by
  simp only [AV.ren,ARep] at x⊢
  obtain ⟨vs,h1,h2,h3⟩:=x
  exact ⟨vs,h1,ARepL.ren H cs h2,h3⟩
 | .tup cs,v,x=>by
  simp only [AV.ren,ARep] at x⊢
  obtain ⟨vs,h1,h2⟩:=x
  exact ⟨vs,h1,ARepL.ren H cs h2⟩
theorem ARepL.ren (H:LiftOK G d base L):∀(l:List AV) {vs:List Value},ARepL P w G l vs→ARepL P w (G.lift d base L) (AV.renL (renP (d+1) base L) l) vs
 | [],_,x=>by simpa [AV.renL,ARepL] using x
 |c::cs,vs,x=>by
  simp only [AV.renL,ARepL] at x⊢
  obtain ⟨v,r,h1,h2,h3⟩:=x
  exact ⟨v,r,h1,by have:=ARep.ren H c h2;rwa [Qtp] at this,ARepL.ren H cs h3⟩
end
theorem QkR {ρ:Nat→Nat→Option (Nat×Nat)}:∀l:List AV,(AV.renL ρ l).length=l.length
 | []=>rfl
 |x::l=>by simp [AV.renL,QkR l]
theorem QrR {ρ:Nat→Nat→Option (Nat×Nat)}:∀(l:List AV) (i:Nat),nthD .any (AV.renL ρ l) i=(nthD .any l i).ren ρ
 | [],i=>by simp [AV.renL,nthD,AV.ren]
 |x::l,0=>by simp [AV.renL,nthD]
 |x::l,i+1=>by simp only [AV.renL,nthD];exact QrR l i
theorem Qzc {ρ:Nat→Nat→Option (Nat×Nat)} {x:AV} {e:TypeId} {l:List (List CV)} (h:x.ren ρ= .row e l):x= .row e l:=by
 cases x with
 |row e' l'=>simpa [AV.ren] using h
 |ptr d s o=>simp only [AV.ren] at h;split at h<;>cases h
 |rsl e d s o n c=>simp only [AV.ren] at h;split at h<;>cases h
 |rptr e d s i o=>simp only [AV.ren] at h;split at h<;>cases h
 |mpp d s=>simp only [AV.ren] at h;split at h<;>cases h
 |_=>simp [AV.ren] at h
theorem Qi6 {ρ:Nat→Nat→Option (Nat×Nat)} (c:List AV):Qaz (AV.renL ρ c)=Qaz c:=by
 cases c with
 |nil=>rfl
 |cons x r=>
  cases r with
  |cons y r=>rfl
  |nil=>
   show Qaz [x.ren ρ]=Qaz [x]
   cases h:Qaz [x.ren ρ] with
   |false=>
    cases x with
    |row e l=>simp [AV.ren,Qaz] at h
    |_=>rfl
   |true=>
    obtain ⟨e,l,hx⟩:=Qc8 h
    simp only [List.cons.injEq,and_true] at hx
    rw [Qzc hx];rfl
theorem Qr3 {ρ:Nat→Nat→Option (Nat×Nat)}:∀c:List CV,AV.renL ρ (c.map .val)=c.map .val
 | []=>rfl
 |x::c=>by simp only [List.map_cons,AV.renL,AV.ren,Qr3 c]
theorem Qu4 {ρ:Nat→Nat→Option (Nat×Nat)} (c:List AV):xp (AV.renL ρ c)=AV.renL ρ (xp c):=by
 cases hr:Qaz c with
 |false=>rw [Qge hr,Qge (by rw [Qi6];exact hr)]
 |true=>
  obtain ⟨e,l,rfl⟩:=Qc8 hr
  show xp [.row e l]=_
  rw [Qg3,Qr3]
theorem Qtx {ρ:Nat→Nat→Option (Nat×Nat)} {b:Nat} {cs:List AV} {vs:Array Value} {T:TypeId} {fz:Nat×Nat} (h:∃ob,w.heap[b]?=some ob∧(Qc9 cs=false→ob= .cells vs T fz)∧∀l,cs= [.row mapE l]→∃es ck,ob= .map es ck∧MapRow es.toList l):
  ∃ob,w.heap[b]?=some ob∧(Qc9 (AV.renL ρ cs)=false→ob= .cells vs T fz)∧∀l,AV.renL ρ cs= [.row mapE l]→∃es ck,ob= .map es ck∧MapRow es.toList l:=by
 obtain ⟨ob,h1,h2,h3⟩:=h
 cases hr:Qaz cs with
 |true=>
  obtain ⟨e,l,rfl⟩:=Qc8 hr
  exact ⟨ob,h1,h2,h3⟩
 |false=>
  refine ⟨ob,h1,fun _=>h2 (Qbw hr),fun l q=> ?_⟩
  have:=Qi6 (ρ:=ρ) cs
  rw [q,hr] at this
  simp [Qaz] at this
theorem CellsRep.ren {G':Gh} {ρ:Nat→Nat→Option (Nat×Nat)} {d s d' s':Nat} {cs:List AV} {vs:List Value} (h:CellsRep P w G d s cs vs)
  (f:∀o v x,ARep P w G (.cell d s o) v x→ARep P w G' (.cell d' s' o) (v.ren ρ) x):CellsRep P w G' d' s' (AV.renL ρ cs) vs:=by
 refine ⟨⟨fun hr=>by rw [QkR];exact h.len.1 (by rw [←Qi6 (ρ:=ρ)];exact hr),fun e l q=> ?_⟩,fun o ho=> ?_⟩
 ·have hr:Qaz cs=true:=by rw [←Qi6 (ρ:=ρ),q];rfl
  obtain ⟨e',l',rfl⟩:=Qc8 hr
  have q: [AV.row e' l']= [.row e l]:=q
  cases q
  exact h.len.2 e l rfl
 ·rw [Qu4,QkR] at ho
  obtain ⟨v,q1,q2,q3⟩:=h.rep o ho
  refine ⟨v,q1,q2, ?_⟩
  rw [Qu4,QrR]
  exact f o _ _ q3
theorem box?_renMem {ρ:Nat→Nat→Option (Nat×Nat)} (m:MemT) (d s:Nat):box? (QnF ρ m) d s=(box? m d s).map (AV.renL ρ):=by
 unfold box? QnF
 simp only [Qar,List.getElem?_map]
 cases h:m[d]? with
 |none=>simp
 |some l=>
  simp only [Option.map_some,Option.getD_some,List.getElem?_map]
  cases l[s]? with
  |none=>rfl
  |some b=>cases b<;>rfl
theorem QpP:∀(d:Nat) (m:MemT) (l:List (Option (List AV))) (d':Nat),d<m.length→nthD [] (Qhe d m l) d'=if d'=d then nthD [] m d++l else nthD [] m d'
 |_, [],_,_,h=>by simp at h
 |0,f::r,l,0,_=>by simp [Qhe,nthD]
 |0,f::r,l,d'+1,_=>by simp [Qhe,nthD]
 |d+1,f::r,l,0,_=>by simp [Qhe,nthD]
 |d+1,f::r,l,d'+1,h=>by
  simp only [Qhe,nthD]
  rw [QpP d r l d' (by simpa using h)]
  simp
theorem Qnn:∀(d:Nat) (m:MemT) (l:List (Option (List AV))),(Qhe d m l).length=m.length
 |_, [],_=>by cases ‹Nat›<;>rfl
 |0,f::r,l=>rfl
 |d+1,f::r,l=>by simp [Qhe,Qnn d r l]
theorem box?_lifted (hm:m.length=d+2) (d' s:Nat):box? (Qes (d+1) m L) d' s=
  if d'=d∧(nthD [] m d).length≤s then (match L[s-(nthD [] m d).length]? with|some s0=>(box? m (d+1) s0).map (AV.renL (renP (d+1) (nthD [] m d).length L))|none=>none)
  else if d'<d+1 then (box? m d' s).map (AV.renL (renP (d+1) (nthD [] m d).length L)) else none:=by
 rw [Qnk]
 unfold Qjg
 rw [box?_renMem]
 simp only [Nat.add_sub_cancel]
 have hx:∀s,box? (Qhe d (m.take (d+1)) (L.map fun s=>nthD none (nthD [] m (d+1)) s)) d' s=
   if d'=d∧(nthD [] m d).length≤s then (match L[s-(nthD [] m d).length]? with|some s0=>box? m (d+1) s0|none=>none) else if d'<d+1 then box? m d' s else none:=by
  intro s
  have htake:∀k,k<d+1→nthD [] (m.take (d+1)) k=nthD [] m k:=fun k hk=>by
   rw [Qar [],Qar [],List.getElem?_take,if_pos hk]
  unfold box?
  rw [QpP d _ _ d' (by simp;omega)]
  by_cases hd:d'=d
  ·subst hd
   rw [if_pos rfl,htake d' (by omega)]
   by_cases hs:(nthD [] m d').length≤s
   ·rw [if_pos ⟨rfl,hs⟩,Qar none,List.getElem?_append_right hs,List.getElem?_map]
    cases L[s-(nthD [] m d').length]?<;>rfl
   ·rw [if_neg (fun q=>hs q.2),if_pos (by omega),Qar none,List.getElem?_append_left (by omega),Qar none]
  ·rw [if_neg hd,if_neg (fun q=>hd q.1)]
   by_cases hlt:d'<d+1
   ·rw [if_pos hlt,htake d' hlt]
   ·rw [if_neg hlt,Qar [],List.getElem?_eq_none (by simp;omega)]
    rfl
 rw [hx]
 split
 ·split<;>rfl
 ·split<;>rfl
theorem Qss (hm:m.length=d+2):(Qes (d+1) m L).length=d+1:=by
 rw [Qnk]
 unfold Qjg QnF
 rw [List.length_map,Qnn]
 simp;omega
theorem Qz0 (M:Mem P B W0 w G m) (hm:m.length=d+2):LiftOK G d (nthD [] m d).length (Qa7 0 (nthD [] m (d+1))):=by
 refine ⟨fun s b h=> ?_,fun s b h=> ?_,fun i s h=>Qmr h⟩
 ·refine Decidable.byContradiction fun hn=> ?_
  obtain ⟨_,_,_,_,hb,_⟩:=M.blk_box h
  unfold box? at hb
  rw [Qar none,List.getElem?_eq_none (by omega)] at hb
  simp at hb
 ·obtain ⟨c,_,_,_,hb,_⟩:=M.blk_box h
  exact QsD hb
theorem Mem.lift (M:Mem P B W0 w G m) (hm:m.length=d+2) (H:LiftOK G d (nthD [] m d).length L):Mem P B W0 w (G.lift d (nthD [] m d).length L) (Qes (d+1) m L):=by
 have hbx:=box?_lifted (L:=L) hm
 refine ⟨M.below,M.base,fun b q hq=> ?_,M.hw,fun d' s hb=> ?_,fun d' s cs hb=> ?_,fun d1 s1 d2 s2 b h1 h2=> ?_,M.glob⟩
 ·simp only [Gh.lift] at hq
  obtain ⟨p,hp,rfl⟩:=Option.map_eq_some_iff.1 hq
  have:=M.own b p hp
  exact ⟨this.1,this.2.1,QzK this.2.2⟩
 ·rw [hbx] at hb
  simp only [Gh.lift]
  by_cases hc:d'=d∧(nthD [] m d).length≤s
  ·rw [if_pos hc] at hb⊢
   split at hb
   ·rename_i s0 hs
    exact M.blk _ _ (by simpa using hb)
   ·rename_i hs
    first|rfl|simp
  ·rw [if_neg hc] at hb⊢
   by_cases hd:d'=d+1
   ·rw [if_pos hd]
   ·rw [if_neg hd]
    by_cases hlt:d'<d+1
    ·rw [if_pos hlt] at hb;exact M.blk _ _ (by simpa using hb)
    ·refine M.blk _ _ ?_
     unfold box?
     rw [Qar [],List.getElem?_eq_none (by omega)]
     rfl
 ·rw [hbx] at hb
  by_cases hc:d'=d∧(nthD [] m d).length≤s
  ·rw [if_pos hc] at hb
   obtain ⟨rfl,hle⟩:=hc
   split at hb
   ·rename_i s0 hs
    obtain ⟨c,hc,rfl⟩:=Option.map_eq_some_iff.1 hb
    obtain ⟨b,vs,T,fz,R⟩:=M.box _ _ c hc
    have hi:=H.idx _ _ hs
    have e:(nthD [] m d').length+(s-(nthD [] m d').length)=s:=by omega
    refine ⟨b,vs,T,fz,by have:=Qek (base:=(nthD [] m d').length) hi R.blk;rwa [e] at this,R.lo,Qtx R.heap,R.free,R.hw,by simp [Gh.lift,R.own],R.rep.ren fun o v x q3=> ?_⟩
    have:=ARep.ren H _ q3
    have hp:plc d' (nthD [] m d').length L (.cell (d'+1) s0 o)= .cell d' s o:=by
     simp only [plc,if_true,hi,e]
    rwa [hp] at this
   ·cases hb
  ·rw [if_neg hc] at hb
   by_cases hlt:d'<d+1
   ·rw [if_pos hlt] at hb
    obtain ⟨c,hc2,rfl⟩:=Option.map_eq_some_iff.1 hb
    obtain ⟨b,vs,T,fz,R⟩:=M.box _ _ c hc2
    refine ⟨b,vs,T,fz,QdS H (by omega) R.blk,R.lo,Qtx R.heap,R.free,R.hw,by simp [Gh.lift,R.own],R.rep.ren fun o v x q3=> ?_⟩
    have:=ARep.ren H _ q3
    have hp:plc d (nthD [] m d).length L (.cell d' s o)= .cell d' s o:=by
     simp only [plc,if_neg (show ¬d'=d+1 by omega)]
    rwa [hp] at this
   ·rw [if_neg hlt] at hb;cases hb
 ·rcases QjV h1 with ⟨rfl,l1,a1,g1,k1⟩|⟨n1,e1,k1⟩<;>rcases QjV h2 with ⟨rfl,l2,a2,g2,k2⟩|⟨n2,e2,k2⟩
  ·obtain ⟨_,rfl⟩:=M.inj _ _ _ _ _ k1 k2
   have:=H.idx _ _ g1
   rw [H.idx _ _ g2] at this
   have:=Option.some.inj this
   exact ⟨rfl,by omega⟩
  ·obtain ⟨h3,_⟩:=M.inj _ _ _ _ _ k1 k2
   exact absurd h3.symm e2
  ·obtain ⟨h3,_⟩:=M.inj _ _ _ _ _ k1 k2
   exact absurd h3 e1
  ·exact M.inj _ _ _ _ _ k1 k2
theorem Keeps.lift (H:LiftOK G d base L):Keeps B (d+1) w w G (G.lift d base L):=by
 refine ⟨Keep.refl _ _,fun b d' i _ hb=>⟨by simp [Gh.lift,hb,plc],rfl,rfl⟩,fun d' s b hd hb=>QdS H (by omega) hb,Below.refl _ _,fun _ _=>rfl,fun b _ hf=>⟨⟨by simp [Gh.lift,hf.1],fun d' s hb=> ?_⟩,rfl,rfl⟩,fun _ _=>rfl⟩
 rcases QjV hb with ⟨_,_,s0,_,h⟩|⟨_,_,h⟩
 ·exact hf.2 _ _ h
 ·exact hf.2 _ _ h
theorem AV.copy_ren {ρ:Nat→Nat→Option (Nat×Nat)} (v:AV):(v.copy.ren ρ).copy=v.copy.ren ρ:=by
 cases v with
 |lst own n e l=>cases own<;>rfl
 |ptr d s o=>
  simp only [AV.copy,AV.ren]
  cases ρ d s<;>rfl
 |rsl e d s o n c=>
  simp only [AV.copy,AV.ren]
  cases ρ d s<;>rfl
 |rptr e d s i o=>
  simp only [AV.copy,AV.ren]
  cases ρ d s<;>rfl
 |mpp d s=>
  simp only [AV.copy,AV.ren]
  cases ρ d s<;>rfl
 |_=>rfl
end Go.Am
set_option linter.unusedVariables false
set_option linter.unusedSimpArgs false
namespace Go.Am
open Go.RowKit
variable {P:Program} {B:Nat} {W0:Base} {d:Nat} {σ:St} {a:Act} {w:World} {G:Gh}
structure GrowX (X:Nat→Prop) (W W':World):Prop where
 os:W'.os=W.os
 tape:W'.tape=W.tape
 output:W'.output=W.output
 size:W.heap.size≤W'.heap.size
 block:∀k,k<W.heap.size→¬X k→W'.heap[k]?=W.heap[k]?
 elem:∀k e,QaX W k=some e→QaX W' k=some e
theorem GrowX.refl (X:Nat→Prop) (W:World):GrowX X W W:=⟨rfl,rfl,rfl,Nat.le_refl _,fun _ _ _=>rfl,fun _ _ h=>h⟩
theorem GrowX.trans {X:Nat→Prop} {A C D:World} (x:GrowX X A C) (y:GrowX X C D):GrowX X A D:=
 ⟨y.os.trans x.os,y.tape.trans x.tape,y.output.trans x.output,Nat.le_trans x.size y.size,fun k hk h=>(y.block k (Nat.lt_of_lt_of_le hk x.size) h).trans (x.block k hk h),fun k e h=>y.elem k e (x.elem k e h)⟩
theorem GrowX.mono {X Y:Nat→Prop} {W W':World} (x:GrowX X W W') (h:∀k,X k→Y k):GrowX Y W W':=
 ⟨x.os,x.tape,x.output,x.size,fun k hk hn=>x.block k hk fun hx=>hn (h k hx),x.elem⟩
theorem GrowX.alloc (X:Nat→Prop) (W:World) (ob:Obj):GrowX X W (W.alloc ob):=
 ⟨rfl,rfl,rfl,by simp,fun k hk _=>Below.heap_alloc W ob k hk,fun k e he=>by rw [Qcc (Below.heap_alloc W ob k (QgM he))];exact he⟩
theorem GrowX.putObj {X:Nat→Prop} {W:World} {l:Nat} {o:Obj} (hl:W.heap[l]?=some o) (he:QaX W l=none) (hX:X l) (o':Obj):GrowX X W (W.putObj l o'):=
 ⟨rfl,rfl,rfl,by simp,fun k hk hn=>World.putObj_heap_other fun e=>hn (e▸hX),fun k e h=>by
  have:k≠l:=fun q=>by subst q;rw [he] at h;cases h
  rw [Qcc (World.putObj_heap_other this)];exact h⟩
theorem Qh7 {W:World} {l:Nat} {r:Loop} (h:W.heap[l]?=some (.loop r)):QaX W l=none:=by simp [QaX,World.shape?,h]
theorem QpT {W:World} {l:Nat} {r:Option (List Deferred)} (h:W.heap[l]?=some (.deferred r)):QaX W l=none:=by simp [QaX,World.shape?,h]
def Off (B:Nat) (G:Gh) (X:Nat→Prop):Prop:=∀b,X b→Free G b∧G.hw b=0∧B≤b
theorem Qja {X:Nat→Prop} {W W':World} {mem:MemT} (M:Mem P B W0 W G mem) (g:GrowX X W W') (hX:Off B G X) (q:Place):Same q W W' G G:=by
 refine ⟨⟨fun _=>Nat.le_refl _,fun b i hi=> ?_,g.elem⟩,fun _ _ _ h=>h,fun b hb=>⟨hb,rfl,g.block b (M.own b _ hb).2.1 fun hx=> ?_⟩⟩
 ·have hlt:b<W.heap.size:=Decidable.byContradiction fun hn=>by rw [M.hw b (by omega)] at hi;omega
  exact cell?_of_heap (g.block b hlt fun hx=>by rw [(hX b hx).2.1] at hi;omega) i
 ·have:=(hX b hx).1.1
  rw [hb] at this;cases this
theorem Mem.growX {X:Nat→Prop} {W W':World} {mem:MemT} (M:Mem P B W0 W G mem) (g:GrowX X W W') (hX:Off B G X):Mem P B W0 W' G mem:=by
 have N:=Qja M g hX
 refine ⟨M.below.trans ⟨g.os,g.tape,g.output,g.size,fun k hk=>g.block k (Nat.lt_of_lt_of_le hk M.base) fun hx=> ?_⟩,Nat.le_trans M.base g.size,fun b p hp=> ?_,fun b hb=>M.hw b (Nat.le_trans g.size hb),M.blk,fun d s cs hb=> ?_,M.inj,M.glob.keep (N .none).keep⟩
 ·have:=(hX k hx).2.2;omega
 ·have:=M.own b p hp
  exact ⟨this.1,Nat.lt_of_lt_of_le this.2.1 g.size,this.2.2⟩
 ·obtain ⟨b,vs,T,fz,R⟩:=M.box d s cs hb
  refine ⟨b,vs,T,fz,R.blk,R.lo,by rw [g.block b R.lt fun hx=>(hX b hx).1.2 _ _ R.blk];exact R.heap,R.free,R.hw,R.own,⟨R.rep.len,fun i hi=> ?_⟩⟩
  obtain ⟨u,q1,q2,q3⟩:=R.rep.rep i hi
  exact ⟨u,q1,q2,ARep.same (N _) (N _) _ q3⟩
theorem Sim.growX {X:Nat→Prop} {W W':World} (S:Sim P B W0 d σ a W G) (g:GrowX X W W') (hX:Off B G X) (hlo:∀b,X b→b<G.lo d):Sim P B W0 d σ a W' G:=by
 have N:=Qja S.mem g hX
 obtain ⟨m0,Ds,m1,m2,m3⟩:=S.marks
 refine ⟨S.mem.growX g hX,S.depth,⟨S.fr.len,fun i=>ARep.same (N _) (N _) _ (S.fr.rep i)⟩,S.cfg,Nat.le_trans m0 g.size,Ds,m1,m2,fun D hD=> ?_⟩
 obtain ⟨q0,q1,q2⟩:=m3 D hD
 exact ⟨q0,by rw [g.block D (Array.getElem?_eq_some_iff.1 q1).1 fun hx=>by have:=hlo D hx;omega];exact q1,q2⟩
theorem QkM {fn:Func} {t:Array Value} {R:Ending→World→Prop} {ν:Nat} {u:FrameMode} (hu:u≠ .run):∀(Ds:List Nat) (W:World),Ds.Nodup→(∀D∈Ds,W.heap[D]?=some (.deferred (some [])))→
  (∀wE,GrowX (· ∈Ds) W wE→LeavesIn (FR none) ν P fn t R [] u wE)→LeavesInM (FR none) ν P fn t R (QnY Ds) u W
 | [],W,_,_,h=>by
  simp only [QnY,List.map_nil,LeavesInM]
  exact h W (GrowX.refl _ _)
 |D::Ds,W,hn,hD,h=>by
  obtain ⟨n1,n2⟩:=List.nodup_cons.1 hn
  have hd:=hD D (by simp)
  simp only [QnY,List.map_cons,LeavesInM]
  refine ⟨hu, .inl ⟨D,_,rfl,run_takeDeferred hd,QkM hu Ds _ n2 (fun D' h'=> ?_) fun wE g=>h wE ?_⟩⟩
  ·rw [World.putObj_heap_other (k:=D') (r:=D) (fun e=>n1 (by rw [←e];exact h'))];exact hD D' (by simp [h'])
  ·exact (GrowX.putObj (X:=(· ∈D::Ds)) hd (QpT hd) (by simp) _).trans (g.mono fun k hk=>by simp [hk])
def StX (X:Nat→Prop) (J:World→Prop):Prop:=∀W W',J W→GrowX X W W'→J W'
def SeqX (P:Program) (gf:FuncId) (lb:Array Value) (xs:List (Array Value)) (bs:List Nat) (C:Nat→Nat→Prop) (w:World):Prop:=
 ∀(ν l:Nat) (J:Nat→World→Prop) (Jx:World→Prop) (W:World),GrowX (fun _=>False) w W→(∀i,StX (· ∈bs) (J i))→StX (· ∈bs) Jx→(∀i W',J i W'→∀b o,C b o→W'.cell? (Qas b o)=w.cell? (Qas b o))→
  (∀i x W1 m,J i W1→xs[i]?=some x→YieldAt Fence.wide m P l x W1 fun e W'=>(e= .returned (.bool true)∧J (i+1) W'∧∀b∈bs,W'.heap[b]?=W1.heap[b]?)∨(e= .returned (.bool false)∧Jx W'))→
  J 0 W→CallsIn Fence.wide ν P gf (#[.func (.yield l) #[] #[]]++lb) W fun e W'=>(∃v,e= .returned v)∧(J xs.length W'∨Jx W')
def Qn1 (X:Nat→Prop) (W W':World):Prop:=W.heap.size≤W'.heap.size∧∀b,X b→b<W.heap.size→W'.heap[b]?=W.heap[b]?
def QAJ (X:Nat→Prop) (I:Nat→World→Prop) (Ix:Code→World→Prop) (i:Nat) (W:World):Exit→Act→World→Prop
 | .normal,_,W'=>Qn1 X W W'∧I (i+1) W'
 | .ret,_,W'=>Qn1 X W W'∧Ix .ret W'
 | .exit id,_,W'=>Qn1 X W W'∧Ix (.exit id) W'
 |_,_,_=>False
def QbR (bs:List Nat) (w:World) (b:Nat):Prop:=b∈bs∨b=w.heap.size∨b=w.heap.size+1
theorem QuV {ν:Nat} {g:Operand} {ps:Array Tmp} {assign body:Code} {Q:Exit→Act→World→Prop} {a:Act} {w:World} {gf:Nat} {lb:Array Value} (hg:a.eval g= .func (.func gf) #[] lb)
  (eg:∀args w,(callFunc gf args).run P w= .ok (.enter gf args) w) {xs:List (Array Value)} {bs:List Nat} {C:Nat→Nat→Prop} (hseq:SeqX P gf lb xs bs C w) (hbs:∀b∈bs,b<w.heap.size) (hps:∀x∈xs,x.size=ps.size)
  (I:Nat→World→Prop) (Ix:Code→World→Prop) (hI:∀i,StX (QbR bs w) (I i)) (hIx:∀c,StX (QbR bs w) (Ix c)) (hIC:∀i W,I i W→∀b o,C b o→W.cell? (Qas b o)=w.cell? (Qas b o)) (h0:I 0 w)
  (hround:∀l i x W,I i W→xs[i]?=some x→w.heap.size+2≤W.heap.size→
   assign.wpIn (FR (some l)) ν P (Exit.then (fun a1 W1=>Qn1 (QbR bs w) W W1∧∀W2,GrowX (QbR bs w) W1 W2→body.wpIn (FR (some l)) ν P (QAJ (QbR bs w) I Ix i W2) a1 W2) (fun _ _ _=>False))
    {tmps:=(ps.zip x).foldl (fun t (p,v)=>t.setIfInBounds p v) a.tmps,defers:= []} W)
  (hdone:∀W,I xs.length W→W.heap[w.heap.size]?=some (.deferred (some []))→Q .normal {a with defers:={target:= .collected w.heap.size,args:= #[]}::a.defers} W)
  (hstop:∀c W,Ix c W→W.heap[w.heap.size]?=some (.deferred (some []))→c.wpIn (FR none) ν P Q {a with defers:={target:= .collected w.heap.size,args:= #[]}::a.defers} W):
  (Code.rangeFunc g ps assign body).wpIn (FR none) ν P Q a w:=by
 refine wpIn_rangeFunc fun fn hfn=> ?_
 obtain ⟨rec,hrec⟩:∃rec:LoopState→Option Code→Loop,rec=fun st pe=>{state:=st,pending:=pe,fn,tmps:=a.tmps,params:=ps,assign,body,defers:=w.heap.size}:=⟨_,rfl⟩
 obtain ⟨W1,hW1⟩:∃W1,(w.alloc (.deferred (some []))).alloc (.loop (rec .ready none))=W1:=⟨_,rfl⟩
 have hL1:W1.heap[w.heap.size+1]?=some (.loop (rec .ready none)):=by
  rw [←hW1];have:=World.alloc_heap_new (w.alloc (.deferred (some []))) (.loop (rec .ready none));rwa [World.size_alloc] at this
 have hK1:W1.heap[w.heap.size]?=some (.deferred (some [])):=by
  rw [←hW1];exact (Below.heap_alloc _ _ _ (by simp)).trans (World.alloc_heap_new w _)
 have g1:∀X,GrowX X w W1:=fun X=>by rw [←hW1];exact (GrowX.alloc X w _).trans (GrowX.alloc X _ _)
 have hsz1:W1.heap.size=w.heap.size+2:=by rw [←hW1];simp
 have xl:QbR bs w (w.heap.size+1):= .inr (.inr rfl)
 have xk:QbR bs w w.heap.size:= .inr (.inl rfl)
 have off:∀{k},k∈bs→k≠w.heap.size∧k≠w.heap.size+1:=fun hk=>by have:=hbs _ hk;omega
 have keep2:∀{W W':World},GrowX (· ∈bs) W W'→w.heap.size+2≤W.heap.size→W'.heap[w.heap.size+1]?=W.heap[w.heap.size+1]?∧W'.heap[w.heap.size]?=W.heap[w.heap.size]?:=fun g hs=>
  ⟨g.block _ (by omega) fun hb=>(off hb).2 rfl,g.block _ (by omega) fun hb=>(off hb).1 rfl⟩
 refine ⟨w.heap.size+1, [{target:= .collected w.heap.size,args:= #[]}],W1,{target:= .fn (.func gf) lb,args:= #[.func (.yield (w.heap.size+1)) #[] #[]]},W1,gf,
  #[.func (.yield (w.heap.size+1)) #[] #[]]++lb,W1, ?_, ?_, ?_, ?_,fun h=>(by cases h), ?_⟩
 ·rw [←hW1,hrec];exact run_enterLoop_outer _ _ _ _ _
 ·simp only [resolve,hg]
  simp [go_sem]
 ·intro f' hf';trivial
 ·simp [invoke,go_sem,eg]
 ·refine (hseq (ν-1) (w.heap.size+1)
   (fun i W=>I i W∧w.heap.size+2≤W.heap.size∧W.heap[w.heap.size+1]?=some (.loop (rec .ready none))∧W.heap[w.heap.size]?=some (.deferred (some [])))
   (fun W=>∃c,Ix c W∧w.heap.size+2≤W.heap.size∧W.heap[w.heap.size+1]?=some (.loop (rec .done (some c)))∧W.heap[w.heap.size]?=some (.deferred (some [])))
   W1 (g1 _) (fun i W W' h g=> ?_) (fun W W' h g=> ?_) (fun i W h=>hIC i W h.1) ?_ ⟨hI 0 _ _ h0 (g1 _),by omega,hL1,hK1⟩).mono ?_
  ·obtain ⟨h1,h2,h3,h4⟩:=h
   obtain ⟨k1,k2⟩:=keep2 g h2
   exact ⟨hI i _ _ h1 (g.mono fun k hk=> .inl hk),Nat.le_trans h2 g.size,by rw [k1];exact h3,by rw [k2];exact h4⟩
  ·obtain ⟨c,h1,h2,h3,h4⟩:=h
   obtain ⟨k1,k2⟩:=keep2 g h2
   exact ⟨c,hIx c _ _ h1 (g.mono fun k hk=> .inl hk),Nat.le_trans h2 g.size,by rw [k1];exact h3,by rw [k2];exact h4⟩
  ·
   rintro i x W m ⟨hi,hs,hl,hk⟩ hx
   have hy:=run_yield (P:=P) (args:=x) hl (by rw [hrec];exact hps x (List.mem_of_getElem? hx))
   rw [hrec] at hy
   refine ⟨fn,_,assign,body,hy, ?_⟩
   refine roundIn_of_wpIn (n:=m) (F:=Fence.wide) trivial ?_
   have hr:=hround (w.heap.size+1) i x W hi hx hs
   have hany:∀{c:Code} {Q':Exit→Act→World→Prop} {a':Act} {W':World},c.wpIn (FR (some (w.heap.size+1))) ν P Q' a' W'→c.wpIn (Fence.wide.inRound (w.heap.size+1)) m P Q' a' W':=fun h b k cs hro hb _=>h b k cs hro hb (room_wide _)
   refine hany (wpIn_mono hr ?_)
   rintro e a1 Wa he
   cases e with
   |normal=>
    obtain ⟨⟨hsa,hsx⟩,hb⟩:=he
    have hla:Wa.heap[w.heap.size+1]?=some (.loop (rec .ready none)):=by rw [hsx _ xl (by omega)];exact hl
    have hka:Wa.heap[w.heap.size]?=some (.deferred (some [])):=by rw [hsx _ xk (by omega)];exact hk
    obtain ⟨Wb,hWb⟩:∃Wb,Wa.putObj (w.heap.size+1) (.loop {rec .ready none with state:= .busy})=Wb:=⟨_,rfl⟩
    have hlt:w.heap.size+1<Wa.heap.size:=by omega
    have hlb:Wb.heap[w.heap.size+1]?=some (.loop {rec .ready none with state:= .busy}):=by rw [←hWb];exact World.putObj_heap_same hlt
    have hkb:Wb.heap[w.heap.size]?=some (.deferred (some [])):=by rw [←hWb];exact (World.putObj_heap_other (by omega)).trans hka
    have hszb:Wb.heap.size=Wa.heap.size:=by rw [←hWb];simp
    refine ⟨Wb,by rw [←hWb];exact run_beginRound hla (by rw [hrec]),hany (wpIn_mono (hb Wb (by rw [←hWb];exact GrowX.putObj hla (Qh7 hla) xl _)) ?_)⟩
    have fin:∀(jump:Option Code) (W3:World),Qn1 (QbR bs w) Wb W3→
      (Instr.endRound (w.heap.size+1) jump).run P W3= .ok (.bool jump.isNone) (W3.putObj (w.heap.size+1) (.loop (rec (if jump.isNone then .ready else .done) jump)))∧
      (W3.putObj (w.heap.size+1) (.loop (rec (if jump.isNone then .ready else .done) jump))).heap[w.heap.size+1]?=some (.loop (rec (if jump.isNone then .ready else .done) jump))∧
      (W3.putObj (w.heap.size+1) (.loop (rec (if jump.isNone then .ready else .done) jump))).heap[w.heap.size]?=some (.deferred (some []))∧
      GrowX (QbR bs w) W3 (W3.putObj (w.heap.size+1) (.loop (rec (if jump.isNone then .ready else .done) jump)))∧w.heap.size+2≤W3.heap.size∧
      ∀b∈bs,(W3.putObj (w.heap.size+1) (.loop (rec (if jump.isNone then .ready else .done) jump))).heap[b]?=W.heap[b]?:=fun jump W3 hsw=>by
     obtain ⟨s1,s2⟩:=hsw
     have hl3:W3.heap[w.heap.size+1]?=some (.loop {rec .ready none with state:= .busy}):=by rw [s2 _ xl (by omega)];exact hlb
     have:=run_endRound (P:=P) jump hl3
     refine ⟨by rw [hrec] at this⊢;exact this,World.putObj_heap_same (by omega),(World.putObj_heap_other (by omega)).trans (by rw [s2 _ xk (by omega)];exact hkb),GrowX.putObj hl3 (Qh7 hl3) xl _,by omega,fun b hbb=> ?_⟩
     have hb1:=hbs b hbb
     rw [World.putObj_heap_other (off hbb).2,s2 b (.inl hbb) (by omega),←hWb,World.putObj_heap_other (off hbb).2]
     exact hsx b (.inl hbb) (by omega)
    rintro e a3 W3 hp
    cases e with
    |normal=>
     obtain ⟨hsw,hi3⟩:=hp
     obtain ⟨hr3,hl4,hk4,hg4,hs4,hb4⟩:=fin none W3 hsw
     exact ⟨_,_,hr3, .inl ⟨rfl,⟨hI _ _ _ hi3 hg4,by simpa using hs4,hl4,hk4⟩,hb4⟩⟩
    |ret=>
     obtain ⟨hsw,hi3⟩:=hp
     obtain ⟨hr3,hl4,hk4,hg4,hs4,hb4⟩:=fin (some .ret) W3 hsw
     exact ⟨_,_,hr3, .inr ⟨rfl, .ret,hIx _ _ _ hi3 hg4,by simpa using hs4,hl4,hk4⟩⟩
    |exit id=>
     obtain ⟨hsw,hi3⟩:=hp
     obtain ⟨hr3,hl4,hk4,hg4,hs4,hb4⟩:=fin (some (.exit id)) W3 hsw
     exact ⟨_,_,hr3, .inr ⟨rfl, .exit id,hIx _ _ _ hi3 hg4,by simpa using hs4,hl4,hk4⟩⟩
    |goto t=>exact hp.elim
    |panic ch=>exact hp.elim
    |outgrown=>exact hp.elim
   |_=>exact he.elim
  ·
   rintro e W2 ⟨⟨v,rfl⟩,(⟨hi,hs,hl,hk⟩|⟨c,hi,hs,hl,hk⟩)⟩
   ·exact ⟨none,_,by have:=run_endLoop (P:=P) hl (by rw [hrec];simp);rw [hrec] at this;exact this,hdone _ (hI _ _ _ hi (GrowX.putObj hl (Qh7 hl) xl _)) ((World.putObj_heap_other (by omega)).trans hk)⟩
   ·exact ⟨some c,_,by have:=run_endLoop (P:=P) hl (by rw [hrec];simp);rw [hrec] at this;exact this,hstop c _ (hIx c _ _ hi (GrowX.putObj hl (Qh7 hl) xl _)) ((World.putObj_heap_other (by omega)).trans hk)⟩
def Quc (P:Program) (B:Nat) (W0:Base):Prop:=
 ∀f it,W0.K.iter f=some it→∀cs items,it cs=some items→∀(w:World) (h:Hw) (bs:List Nat),Below B W0.W w→(∀b,w.heap.size≤b→h b=0)→bs.length=cs.length→bs.Nodup→
  (∀(i:Nat) c b,cs[i]?=some c→bs[i]?=some b→∃vs t fz,w.heap[b]?=some (.cells vs t fz)∧CRepV w h c vs.toList∧h b=0∧∀i,i<vs.size→¬(fz.1≤i∧i<fz.2))→
  (∀args w',(callFunc f args).run P w'= .ok (.enter f args) w')∧∃xs:List (Array Value),xs.length=items.length∧(∀(i:Nat) x c,xs[i]?=some x→items[i]?=some c→CRepT w h c x.toList)∧
   SeqX P f (bs.map fun b=>Value.pointer (some (Qas b 0))).toArray xs bs (fun b o=>o<h b) w
end Go.Am
namespace Go.Am
open Go.RowKit
variable {P:Program} {B:Nat} {W0:Base} {d:Nat} {σ:St} {a:Act} {w:World} {G:Gh} {β:Type} {call:FuncId→List CV→Option CV}
 {inl:FuncId→List AV→MemT→(AV→MemT→Option β)→Option β} {acc:List Loc} {r:β} {o:Oper} {ops:Array Oper} {ρ:Option Nat} {ν:Nat} {ZZ:List PanicEntry→Prop} {Z:β→List PanicEntry→Prop}
theorem QvJ {ops:Array Oper} (hg:∀σ',Shape σ σ'→(∀l∈Qbg ops.toList o,Loc.same σ σ' l)→∀a w G,Sim P B W0 d σ' a w G→Region.wanted o (yielded ops a.tmps)=false):
  Qie ZZ ρ ν P B W0 d ops o σ ⟨Qbg ops.toList o,put o .undef⟩:=by
 intro σ' hs hl a w G S K Q _ hK
 unfold wpO
 rw [if_neg (by rw [hg σ' hs hl a w G S];simp)]
 exact hK _ _ G (S.put o fun t _=>by simp [ARep]) (Keeps.refl _ _ _ _)
theorem Qmd {ops:List Oper} {j t:Nat} {want:Bool} (hg:o.guard=some (j,want)) (ht:(ops[j]?).bind (·.dst)=some t):Loc.tmp t∈Qbg ops o:=by
 simp [Qbg,hg,ht]
theorem Qr9 {ops:Array Oper} (SE:Qa5 P) (CO:CallOK P B W0 call) {did:Did→St→Option β}
  (h:(opM P d ops.toList o).exec call σ (Qdb o++Qbg ops.toList o) (fun w rs=>did ⟨rs,w⟩ (Qau σ w))=some r)
  (hg:∀σ',Shape σ σ'→(∀l∈Qbg ops.toList o,Loc.same σ σ' l)→∀a w G,Sim P B W0 d σ' a w G→Region.wanted o (yielded ops a.tmps)=true):
  ∃D,did D (Qau σ D.writes)=some r∧Qie ZZ ρ ν P B W0 d ops o σ D:=by
 obtain ⟨ws,rs,h1,h2,h3⟩:=M.exec_local _ h
 refine ⟨⟨rs,ws⟩,h1, ?_⟩
 intro σ' hs hl a w G S K Q _ hK
 unfold wpO
 rw [if_pos (hg σ' hs (fun l hh=>hl l (h2 l (by simp [hh]))) a w G S)]
 have e:=h3 σ' hs hl (fun ws _=>some ws)
 obtain ⟨ws',rs',q1,q2⟩:=QxO SE CO S e
 simp only [Option.some.injEq] at q1
 subst q1
 exact q2 ρ ν K Q hK
def LinI (pn:Bool) (inl:FuncId→List AV→MemT→(AV→MemT→Option β)→Option β):Prop:=
 ∀f vs mem k r,inl f vs mem k=some r→(∃v mem',k v mem'=some r∧∀k',inl f vs mem k'=k' v mem')∨(pn=true∧∀k',inl f vs mem k'=some r)
def Qn0 (Z:β→List PanicEntry→Prop) (P:Program) (B:Nat) (W0:Base) (k:AV→MemT→Option β) (r:β) (w:World) (G:Gh) (D:Nat) (e:Ending) (w':World):Prop:=
 (∃v x mem' G',e= .returned x∧k v mem'=some r∧Mem P B W0 w' G' mem'∧mem'.length=D∧ARep P w' G' .none v x∧v.copy=v∧Keeps B D w w' G G')∨
 (∃ch G',e= .panicked ch∧Z r ch∧KeepsP B D w w' G G')
structure InlR (Z:β→List PanicEntry→Prop) (P:Program) (B:Nat) (W0:Base) (inl:FuncId→List AV→MemT→(AV→MemT→Option β)→Option β):Prop where
 run:∀{f vs mem k r},mem≠ []→inl f vs mem k=some r→∀w G D,Mem P B W0 w G mem→mem.length=D→∀xs:List Value,ARepL P w G vs xs→
  (∀w',(callFunc f xs.toArray).run P w'= .ok (.enter f xs.toArray) w')∧Calls P f xs.toArray w (Qn0 Z P B W0 k r w G D)
 lin:LinI W0.K.pan.isSome inl
 iter:Quc P B W0
 nz:W0.K.pan=none→∀r ch,¬Z r ch
structure InlOK (Z:β→List PanicEntry→Prop) (P:Program) (B:Nat) (W0:Base) (inl:FuncId→List AV→MemT→(AV→MemT→Option β)→Option β):Prop extends InlR Z P B W0 inl where
 pan:∀{k r},inl panF [] [] k=some r→∀t,W0.K.pan=some t→Z r [{v:= .iface t (.agg #[]),recovered:=false}]
 panT:∀t,W0.K.pan=some t→∀w,(Instr.build t #[]).run P w= .ok (.agg #[]) w∧(Instr.makeInterface t (.agg #[])).run P w= .ok (.iface t (.agg #[])) w
theorem ARepL.append {w:World} {G:Gh}:∀{c e:List AV} {us vs:List Value},ARepL P w G c us→ARepL P w G e vs→ARepL P w G (c++e) (us++vs)
 | [],e,us,vs,h1,h2=>by simp only [ARepL] at h1;subst h1;simpa using h2
 |c::cs,e,us,vs,h1,h2=>by
  simp only [ARepL] at h1
  obtain ⟨v,r,rfl,h3,h4⟩:=h1
  simp only [List.cons_append,ARepL]
  exact ⟨v,r++vs,rfl,h3,ARepL.append h4 h2⟩
def QeC (σ:St) (x:Operand):AV:=
 match x with
 | .tmp t=>(σ.get (.tmp t)).copy
 | .const v=>AV.ofConst v
 | .func f=> .val (.fn f)
 | .global _=> .any
theorem QoH (S:Sim P B W0 d σ a w G) (x:Operand):ARep P w G .none (QeC σ x) (a.eval x):=by
 cases x with
 |tmp t=>exact (S.fr.rep t).copy
 |const v=>exact AV.ofConst_rep w G .none v
 |func f=>simp [QeC,ARep,CRep,Act.eval]
 |global g=>simp [QeC,ARep]
theorem QmV (S:Sim P B W0 d σ a w G):∀l:List Operand,ARepL P w G (l.map (QeC σ)) (l.map a.eval)
 | []=>by simp [ARepL]
 |x::l=>by simp only [List.map_cons,ARepL];exact ⟨_,_,rfl,QoH S x,QmV S l⟩
theorem Qgj (σ:St) (o:Oper):Qa2 σ o=match o.op with
  | .call {callee:= .value f,args, .. }=>match QeC σ f with
   | .clo g caps=>some (g,args.toList.map (QeC σ)++caps)
   | .val v=>v.asF.bind fun g=>if (args.toList.map (QeC σ)).all AV.plain&&((σ.K.hook g).isNone&& !σ.K.inl g) then none else some (g,args.toList.map (QeC σ))
   |_=>none
  |_=>none:=by
 unfold Qa2
 rfl
theorem Sim.backIn (S:Sim P B W0 d σ a w G) {w':World} {G':Gh} {mem':MemT} {v:AV} {x:Value} (o:Oper) (M':Mem P B W0 w' G' mem') (hl:mem'.length=d+1) (hv:ARep P w' G' .none v x) (hown:v.copy=v)
  (K:Keeps B (d+1) w w' G G'):Sim P B W0 d (backIn σ o v mem') (a.put o.dst x) w' G':=by
 have N:∀q,(∀d' s o',q≠ .cell d' s o')→(∀d' i,q= .tmp d' i→d'=d)→Same q w w' G G':=fun q h1 h2=>by
  refine ⟨K.keep,fun d' s b hb=> ?_,fun b hb=> ?_⟩
  ·by_cases hlt:d'<d+1
   ·exact K.blk d' s b hlt hb
   ·have:box? σ.mem d' s=none:=by
     unfold box?
     have e:nthD [] σ.mem d'= []:=by rw [Qar,List.getElem?_eq_none (by rw [S.depth];omega)];rfl
     rw [e];rfl
    rw [S.mem.blk d' s this] at hb;cases hb
  ·cases q with
   |tmp d' i=>exact K.own b d' i (by have:=h2 d' i rfl;omega) hb
   |cell d' s o'=>exact absurd rfl (h1 d' s o')
   |none=>exact ((S.mem.noNone b) hb).elim
 have F:Fr P w' G' d σ.tmps a.tmps:=⟨S.fr.len,fun i=>ARep.same (N _ (by simp) (by simp)) (N _ (by simp) (by simp)) _ (S.fr.rep i)⟩
 have S0:Sim P B W0 d {tmps:=σ.tmps,mem:=mem',K:=σ.K} a w' G':=⟨M',hl,F,S.cfg,S.marks.of K.rest (K.lo d (Nat.le_succ d)) K.below.size⟩
 have:=S0.put o (v:=v) (x:=x) fun t _=>hown▸hv.copy
 unfold Am.backIn
 cases hd:o.dst with
 |none=>simpa [Am.put,hd,Qau] using this
 |some t=>simpa [Am.put,hd,Qau,W.apply] using this
theorem QvW {σ σ':St} {x:Operand} (h:∀l,Qxl x=some l→Loc.same σ σ' l):QeC σ' x=QeC σ x:=by
 cases x with
 |tmp t=>have:=(h (.tmp t) rfl).get;simp only [QeC,this]
 |_=>rfl
theorem Qkp {σ σ':St} (hK:σ'.K=σ.K) (h:∀l∈Qdb o,Loc.same σ σ' l):Qa2 σ' o=Qa2 σ o:=by
 rw [Qgj,Qgj]
 split
 ·rename_i fo args at_ ho
  have hr:∀x,x=fo∨x∈args.toList→QeC σ' x=QeC σ x:=fun x hx=>QvW fun l hl=>h l (by
   simp only [Qdb,ho]
   exact List.mem_filterMap.2 ⟨x,by simpa using hx,hl⟩)
  have h1:=hr fo (.inl rfl)
  have h2:args.toList.map (QeC σ')=args.toList.map (QeC σ):=List.map_congr_left fun x hx=>hr x (.inr hx)
  rw [h1,h2,hK]
 ·rfl
theorem QiN {f:FuncId} {vs:List AV} (hi:Qa2 σ o=some (f,vs)):∀c,o.op≠ .defer c:=by
 intro c hc
 rw [Qgj,hc] at hi
 cases hi
theorem QjN {f:FuncId} {vs:List AV} (S:Sim P B W0 d σ a w G) (hi:Qa2 σ o=some (f,vs)):∃xs:List Value,ARepL P w G vs xs∧∀w,(execOp a.eval o).run P w=(callFunc f xs.toArray).run P w:=by
 rw [Qgj] at hi
 split at hi
 ·rename_i fo args at_ ho
  have hfo:=QoH S fo
  have hargs:=QmV S args.toList
  split at hi
  ·rename_i g caps hf
   simp only [Option.some.injEq,Prod.mk.injEq] at hi
   obtain ⟨rfl,rfl⟩:=hi
   rw [hf] at hfo
   simp only [ARep] at hfo
   obtain ⟨us,h1,h2⟩:=hfo
   refine ⟨_,hargs.append h2,fun w=> ?_⟩
   have e:(args.toList.map a.eval++us).toArray=args.map a.eval++us.toArray:=by apply Array.ext';simp
   rw [e]
   simp only [execOp,ho,resolve,h1,Deferred.ofValue]
   simp [invoke]
  ·rename_i v hf
   cases hv:v.asF with
   |none=>rw [hv] at hi;cases hi
   |some g=>
    rw [hv] at hi
    simp only [Option.bind_some] at hi
    split at hi
    ·cases hi
    ·simp only [Option.some.injEq,Prod.mk.injEq] at hi
     obtain ⟨rfl,rfl⟩:=hi
     rw [hf,Qpc hv] at hfo
     simp only [ARep,CRep] at hfo
     refine ⟨_,hargs,fun w=> ?_⟩
     have e:(args.toList.map a.eval).toArray=args.map a.eval:=by apply Array.ext';simp
     rw [e]
     simp only [execOp,ho,resolve,hfo,Deferred.ofValue]
     simp [invoke]
  ·cases hi
 ·cases hi
theorem QrO {p:Nat→Nat→Bool} {b:Nat} (h:Free G b):Free (G.mask p) b:=by
 refine ⟨?_,fun d' s' hb=> ?_⟩
 ·cases ho:(G.mask p).own b with
  |none=>rfl
  |some q=>have:=Qf9 ho;rw [h.1] at this;cases this
 ·cases hp:p d' s' with
  |true=>simp [Gh.mask,hp] at hb
  |false=>exact h.2 d' s' (by simpa [Gh.mask,hp] using hb)
theorem Qwp (Iok:InlOK Z P B W0 inl) {did:Did→St→Option β} {f:FuncId} {vs:List AV} (hi:Qa2 σ o=some (f,vs)) (h:inlR inl ops.toList o did f vs σ (Qkt σ.mem vs)=some r)
  (hg:∀σ',Shape σ σ'→(∀l∈Qbg ops.toList o,Loc.same σ σ' l)→∀a w G,Sim P B W0 d σ' a w G→Region.wanted o (yielded ops a.tmps)=true):
  (∃D,did D (Qau σ D.writes)=some r∧Qie (Z r) ρ ν P B W0 d ops o σ D)∨(W0.K.pan.isSome=true∧Dies (Z r) ρ ν P B W0 d ops o σ (QfB ops.toList o σ vs).reads):=by
 unfold inlR at h
 obtain ⟨hout,h⟩:=Qaf h
 have hout:AV.hasPtrs (QbL (Qkt σ.mem vs)) vs=false:=by simpa using hout
 rcases Iok.lin _ _ _ _ _ h with ⟨v,m',h,hlin⟩|⟨hpn,hlin⟩
 case inr=>
  refine .inr ⟨hpn, ?_⟩
  intro σ' hs hl a w G S K Q hP
  generalize hSS:Qkt σ.mem vs=SS at*
  have hsome:∀q∈SS,∃c,box? σ.mem q.1 q.2=some c:=fun q hq=>Qp9 q (by rw [hSS];exact hq)
  have hl:∀l,l∈(.glob 0::(Qdb o++Qbg ops.toList o++QnZ σ.mem SS):List Loc)→Loc.same σ σ' l:=fun l hll=>hl l (by unfold QfB;rw [hSS];exact hll)
  have hKK:σ'.K=σ.K:=hl (.glob 0) (by simp)
  have hbox:∀q∈SS,box? σ'.mem q.1 q.2=box? σ.mem q.1 q.2:=fun q hq=>Qoq (fun l hll=>hl l (by simp [hll])) hq (hsome q hq)
  unfold wpO
  rw [if_pos (hg σ' hs (fun l hh=>hl l (by simp [hh])) a w G S)]
  have hi':Qa2 σ' o=some (f,vs):=by rw [Qkp hKK fun l hll=>hl l (by simp [hll])];exact hi
  obtain ⟨xs,hxs,hex⟩:=QjN S hi'
  have hnd:=QiN hi'
  have hdrop:∀d' s',box? (QbD (QbL SS) 0 σ.mem) d' s'=Qbp (QbL SS) σ'.mem d' s':=fun d' s'=>by
   rw [box?_maskMem]
   unfold Qbp
   cases hp:QbL SS d' s' with
   |true=>rfl
   |false=>
    have:(d',s')∈SS:=by simpa [QbL] using hp
    rw [hbox (d',s') this]
  have M1:Mem P B W0 w (G.mask (QbL SS)) (QbD (QbL SS) 0 σ.mem):=S.mem.mask hdrop
  have hD:σ'.mem.length=d+1:=S.depth
  have hD1:(QbD (QbL SS) 0 σ.mem).length=d+1:=by rw [QfK,←hs.2.1];exact hD
  have hxs1:ARepL P w (G.mask (QbL SS)) vs xs:=ARepL.same (QkI fun d' s' o' e=>by cases e) vs (ARepL.drop vs hout hxs)
  have hrun:=hlin fun _ _=>none
  obtain ⟨h1,h2⟩:=Iok.run (by intro e;rw [e] at hD1;simp at hD1) hrun w (G.mask (QbL SS)) (d+1) M1 hD1 xs hxs1
  refine ⟨fun _ _=>trivial, ?_⟩
  rw [Oper.semAt_eq _ _ _ hnd,hex,h1 w,Oper.uponIn_enter]
  refine ⟨fun h=>(by cases h),QfP (h2.mono fun e w' he=> ?_)⟩
  rcases he with ⟨v2,x,m2,G',rfl,hk,_⟩|⟨ch,G',rfl,hz,K'⟩
  ·cases hk
  ·have K2:KeepsP B d w w' G G':=⟨K'.below,fun b hb hf=>K'.rest b hb (QrO hf),fun d' hd=>K'.lo d' (by omega)⟩
   exact hP ch a w' G' hz (S.marks.of K2.rest (K2.lo d (Nat.le_refl _)) K2.below.size) K2
 left
 unfold inlD at h
 obtain ⟨hsh,h⟩:=Qaf h
 refine ⟨_,h, ?_⟩
 intro σ' hs hl a w G S K Q hP hK
 generalize hSS:Qkt σ.mem vs=SS at*
 have hsome:∀q∈SS,∃c,box? σ.mem q.1 q.2=some c:=fun q hq=>Qp9 q (by rw [hSS];exact hq)
 have hKK:σ'.K=σ.K:=hl (.glob 0) (by simp [QlN])
 have hbox:∀q∈SS,box? σ'.mem q.1 q.2=box? σ.mem q.1 q.2:=fun q hq=>Qoq (fun l hll=>hl l (by simp [QlN,hll])) hq (hsome q hq)
 unfold wpO
 rw [if_pos (hg σ' hs (fun l hh=>hl l (by simp [QlN,hh])) a w G S)]
 have hi':Qa2 σ' o=some (f,vs):=by rw [Qkp hKK fun l hll=>hl l (by simp [QlN,hll])];exact hi
 obtain ⟨xs,hxs,hex⟩:=QjN S hi'
 have hnd:=QiN hi'
 have hdrop:∀d' s',box? (QbD (QbL SS) 0 σ.mem) d' s'=Qbp (QbL SS) σ'.mem d' s':=fun d' s'=>by
  rw [box?_maskMem]
  unfold Qbp
  cases hp:QbL SS d' s' with
  |true=>rfl
  |false=>
   have:(d',s')∈SS:=by simpa [QbL] using hp
   rw [hbox (d',s') this]
 have M1:Mem P B W0 w (G.mask (QbL SS)) (QbD (QbL SS) 0 σ.mem):=S.mem.mask hdrop
 have hD:σ'.mem.length=d+1:=S.depth
 have hD1:(QbD (QbL SS) 0 σ.mem).length=d+1:=by rw [QfK,←hs.2.1];exact hD
 have hxs1:ARepL P w (G.mask (QbL SS)) vs xs:=ARepL.same (QkI fun d' s' o' e=>by cases e) vs (ARepL.drop vs hout hxs)
 have hrun:=hlin fun v2 m2=>open Classical in if v2=v∧m2=m' then some r else none
 rw [if_pos ⟨rfl,rfl⟩] at hrun
 obtain ⟨h1,h2⟩:=Iok.run (by intro e;rw [e] at hD1;simp at hD1) hrun w (G.mask (QbL SS)) (d+1) M1 hD1 xs hxs1
 refine ⟨fun _ _=>trivial, ?_⟩
 rw [Oper.semAt_eq _ _ _ hnd,hex,h1 w,Oper.uponIn_enter]
 refine ⟨fun h=>(by cases h),QfP (h2.mono fun e w' he=> ?_)⟩
 rcases he with ⟨v2,x,m2,G',rfl,hk,M',hlen,hv,hc,K'⟩|⟨ch,G',rfl,hz,K'⟩
 case inr=>
  have K2:KeepsP B d w w' G G':=⟨K'.below,fun b hb hf=>K'.rest b hb (QrO hf),fun d' hd=>K'.lo d' (by omega)⟩
  exact hP ch a w' G' hz (S.marks.of K2.rest (K2.lo d (Nat.le_refl _)) K2.below.size) K2
 have hk:v2=v∧m2=m':=by
  simp only at hk
  split at hk
  ·assumption
  ·cases hk
 obtain ⟨rfl,rfl⟩:=hk
 have hn:∀d' s',QbL SS d' s'=true→box? m2 d' s'=none:=fun d' s' hp=>by
  have:=QhZ hsh d' s'
  rw [box?_maskMem] at this
  unfold Qbp at this
  rw [hp] at this
  simp only [if_true,Option.isNone_none] at this
  simpa using this.symm
 have hin:∀q∈SS,∃c0 c,box? σ.mem q.1 q.2=some c0∧box? m2 q.1 q.2=some c:=fun q hq=>by
  obtain ⟨c0,hc0⟩:=hsome q hq
  have:=QhZ hsh q.1 q.2
  rw [box?_maskMem] at this
  unfold Qbp at this
  have hp:QbL SS q.1 q.2=false:=by simpa [QbL] using hq
  rw [hp,hc0] at this
  simp only [Bool.false_eq_true,if_false,Option.map_some,Option.isNone_some] at this
  cases hc:box? m2 q.1 q.2 with
  |none=>rw [hc] at this;simp at this
  |some c=>exact ⟨c0,c,hc0,rfl⟩
 obtain ⟨r1,r2,r3,r4⟩:=Qma (fl:=QsV σ.K) (m:=σ.mem) (m':=m2) SS σ' hin fun q hq=> .inl (hbox q hq)
 have hm2:∀d' s',box? (Qau σ' (Qdw (QsV σ.K) σ.mem m2 SS)).mem d' s'=if QbL SS d' s' then box? σ'.mem d' s' else box? m2 d' s':=fun d' s'=>by
  rw [r4]
  unfold QbL
  cases SS.contains (d',s')<;>simp
 have S2:Sim P B W0 d (Qau σ' (Qdw (QsV σ.K) σ.mem m2 SS)) a w' (G.back (QbL SS) G'):=by
  refine ⟨S.mem.back hD M' hn K' hm2,by rw [r3];exact hD, ?_,by rw [r2];exact S.cfg,S.marks.of (Keeps.back S.mem hD K').rest (K'.lo d (Nat.le_succ d)) K'.below.size⟩
  rw [r1]
  exact ⟨S.fr.len,fun i=>ARep.same (QgN S.mem hD K' (.inl ⟨d,i,rfl,Nat.lt_succ_self d⟩)) (QgN S.mem hD K' (.inr (.inl rfl))) _ (S.fr.rep i)⟩
 have hv2:ARep P w' (G.back (QbL SS) G') .none v2 x:=ARep.same (QnW S.mem M' hn K' _) (QnW S.mem M' hn K' _) _ hv
 have S3:=S2.put o (v:=v2) (x:=x) fun t _=>hc▸hv2.copy
 refine hK _ _ (G.back (QbL SS) G') ?_ ((Keeps.back S.mem hD K').mono (Nat.le_succ _))
 simp only [QlN,Qgo]
 exact S3
theorem QqC (SE:Qa5 P) (CO:CallOK P B W0 call) (Iok:InlOK Z P B W0 inl) {pre:Bool} {did:Did→St→Option β} {k:St→Option β}
  (h:Qdi P call inl d σ ops.toList o pre did k=some r):
  (∃D,did D (Qau σ D.writes)=some r∧Qie (Z r) ρ ν P B W0 d ops o σ D)∨
  (pre=true∧∀a w G,Sim P B W0 d σ a w G→∀(K:Act→World→Prop) (Q:Exit→Act→World→Prop),PanQ (Z r) B d w G Q→
   (∀a' w' G' σ',Sim P B W0 d σ' a' w' G'→Keeps B d w w' G G'→k σ'=some r→K a' w')→wpO ρ ν P ops Q o K a w)∨
  (pre=false∧W0.K.pan.isSome=true∧∃f vs,Qa2 σ o=some (f,vs)∧Dies (Z r) ρ ν P B W0 d ops o σ (QfB ops.toList o σ vs).reads):=by
 have hrun:runK P call inl d ops.toList o pre did k σ=some r→(∀σ',Shape σ σ'→(∀l∈Qbg ops.toList o,Loc.same σ σ' l)→∀a w G,Sim P B W0 d σ' a w G→Region.wanted o (yielded ops a.tmps)=true)→
   (∃D,did D (Qau σ D.writes)=some r∧Qie (Z r) ρ ν P B W0 d ops o σ D)∨
   (pre=true∧∀a w G,Sim P B W0 d σ a w G→∀(K:Act→World→Prop) (Q:Exit→Act→World→Prop),PanQ (Z r) B d w G Q→
    (∀a' w' G' σ',Sim P B W0 d σ' a' w' G'→Keeps B d w w' G G'→k σ'=some r→K a' w')→wpO ρ ν P ops Q o K a w)∨
   (pre=false∧W0.K.pan.isSome=true∧∃f vs,Qa2 σ o=some (f,vs)∧Dies (Z r) ρ ν P B W0 d ops o σ (QfB ops.toList o σ vs).reads):=by
  intro h hg
  unfold runK at h
  split at h
  ·rename_i f vs hi
   cases pre with
   |false=>
    rcases Qwp Iok hi h hg with h|⟨h1,h2⟩
    ·exact .inl h
    ·exact .inr (.inr ⟨rfl,h1,f,vs,hi,h2⟩)
   |true=>
    refine .inr (.inl ⟨rfl,fun a w G S K Q hP hK=> ?_⟩)
    unfold wpO
    rw [if_pos (hg σ ⟨rfl,rfl,fun _=>rfl⟩ (fun l _=>by cases l<;>simp [Loc.same]) a w G S)]
    obtain ⟨xs,hxs,hex⟩:=QjN S hi
    have hnd:=QiN hi
    obtain ⟨h1,h2⟩:=Iok.run (by intro e;have:=S.depth;rw [e] at this;simp at this) h w G (d+1) S.mem S.depth xs hxs
    refine ⟨fun _ _=>trivial, ?_⟩
    rw [Oper.semAt_eq _ _ _ hnd,hex,h1 w,Oper.uponIn_enter]
    refine ⟨fun h=>(by cases h),QfP (h2.mono fun e w' he=> ?_)⟩
    rcases he with ⟨v,x,mem',G',rfl,hk,M',hl,hv,hc,K'⟩|⟨ch,G',rfl,hz,K'⟩
    ·exact hK _ _ _ _ (S.backIn o M' hl hv hc K') (K'.mono (Nat.le_succ _)) hk
    ·have K2:=K'.mono (Nat.le_succ d)
     exact hP ch a w' G' hz (S.marks.of K2.rest (K2.lo d (Nat.le_refl _)) K2.below.size) K2
  ·exact .inl (Qr9 SE CO h hg)
 have hskip:QvK ops.toList o did σ=some r→(∀σ',Shape σ σ'→(∀l∈Qbg ops.toList o,Loc.same σ σ' l)→∀a w G,Sim P B W0 d σ' a w G→Region.wanted o (yielded ops a.tmps)=false)→
   (∃D,did D (Qau σ D.writes)=some r∧Qie (Z r) ρ ν P B W0 d ops o σ D):=fun h hg=>⟨_,h,QvJ hg⟩
 unfold Qdi at h
 rcases QuL h with ⟨hg,h⟩|⟨j,want,t,hg,ht,⟨b,hb,⟨hbw,h⟩|⟨hbw,h⟩⟩|⟨hb,h⟩⟩
 ·exact hrun h fun σ' _ _ a w G _=>Qf4 hg
 ·refine hrun h fun σ' hs hl a w G S=> ?_
  have e:nthD .any σ'.tmps t=nthD .any σ.tmps t:=hl (.tmp t) (Qmd hg ht)
  have:=S.fr.rep t
  rw [e,hb] at this
  simp only [ARep,CRep] at this
  rw [Qon hg ht this,hbw]
  cases want<;>rfl
 ·refine .inl (hskip h fun σ' hs hl a w G S=> ?_)
  have e:nthD .any σ'.tmps t=nthD .any σ.tmps t:=hl (.tmp t) (Qmd hg ht)
  have:=S.fr.rep t
  rw [e,hb] at this
  simp only [ARep,CRep] at this
  rw [Qon hg ht this]
  exact beq_eq_false_iff_ne.2 hbw
 ·refine .inl (hskip h fun σ' hs hl a w G S=> ?_)
  have e:nthD .any σ'.tmps t=nthD .any σ.tmps t:=hl (.tmp t) (Qmd hg ht)
  have:=S.fr.rep t
  rw [e,hb] at this
  simp only [ARep] at this
  exact Qts hg ht this
end Go.Am
namespace Go.Am
variable {P:Program} {d:Nat} {σ:St} {β:Type} {call:FuncId→List CV→Option CV}
 {inl:FuncId→List AV→MemT→(AV→MemT→Option β)→Option β} {r:β} {o:Oper} {ops:List Oper} {m:Nat} {pn:Bool}
theorem Qvu {run skip:St→Option β} (h:Qj0 σ ops o run skip=some r):
  (∃σ1,run σ1=some r∧∀run' skip':St→Option β,Qj0 σ ops o run' skip'=run' σ1)∨(∃σ1,skip σ1=some r∧∀run' skip':St→Option β,Qj0 σ ops o run' skip'=skip' σ1):=by
 unfold Qj0 at h⊢
 cases hg:o.guard with
 |none=>simp only [hg] at h⊢;exact .inl ⟨σ,h,fun _ _=>rfl⟩
 |some jw=>
  obtain ⟨j,want⟩:=jw
  simp only [hg] at h⊢
  cases ht:(ops[j]?).bind (·.dst) with
  |none=>simp [ht] at h
  |some t=>
   simp only [ht] at h⊢
   cases hv:nthD AV.any σ.tmps t with
   |val v=>
    simp only [hv] at h⊢
    obtain ⟨b,hb,h⟩:=Qag h
    simp only [hb,optO]
    cases want<;>cases b<;>simp only [cond_true,cond_false] at h⊢
    ·exact .inl ⟨_,h,fun _ _=>rfl⟩
    ·exact .inr ⟨_,h,fun _ _=>rfl⟩
    ·exact .inr ⟨_,h,fun _ _=>rfl⟩
    ·exact .inl ⟨_,h,fun _ _=>rfl⟩
   |undef=>simp only [hv] at h⊢;exact .inr ⟨σ,h,fun _ _=>rfl⟩
   |_=>simp [hv] at h
theorem QtB (L:LinI pn inl) {pre:Bool} {did:Did→St→Option β} {k:St→Option β} (h:Qdi P call inl d σ ops o pre did k=some r):
  (∃D σ1,did D σ1=some r∧∀(did':Did→St→Option β) (k':St→Option β),Qdi P call inl d σ ops o pre did' k'=did' D σ1)∨
  (∃σ1,k σ1=some r∧∀(did':Did→St→Option β) (k':St→Option β),Qdi P call inl d σ ops o pre did' k'=k' σ1)∨
  (pn=true∧∀(did':Did→St→Option β) (k':St→Option β),Qdi P call inl d σ ops o pre did' k'=some r):=by
 unfold Qdi at h
 rcases Qvu h with ⟨σ1,h,hl⟩|⟨σ1,h,hl⟩
 ·unfold runK at h
  cases hi:Qa2 σ1 o with
  |none=>
   simp only [hi] at h
   obtain ⟨w,rs,h1,_,h2⟩:=M.exec_local _ h
   refine .inl ⟨_,_,h1,fun did' k'=> ?_⟩
   unfold Qdi
   rw [hl]
   unfold runK
   simp only [hi]
   exact h2 σ1 ⟨rfl,rfl,fun _=>rfl⟩ (fun l _=>by cases l<;>simp [Loc.same]) _
  |some fv=>
   obtain ⟨f,vs⟩:=fv
   simp only [hi] at h
   cases pre with
   |true=>
    simp only at h
    rcases L _ _ _ _ _ h with ⟨v,mem',h1,h2⟩|⟨h1,h2⟩
    ·refine .inr (.inl ⟨_,h1,fun did' k'=> ?_⟩)
     unfold Qdi
     rw [hl]
     unfold runK
     simp only [hi]
     exact h2 _
    ·refine .inr (.inr ⟨h1,fun did' k'=> ?_⟩)
     unfold Qdi
     rw [hl]
     unfold runK
     simp only [hi]
     exact h2 _
   |false=>
    simp only at h
    unfold inlR at h
    obtain ⟨hc,h⟩:=Qaf h
    rcases L _ _ _ _ _ h with ⟨v,mem',h1,h2⟩|⟨h1,h2⟩
    ·unfold inlD at h1
     obtain ⟨hs,h1⟩:=Qaf h1
     refine .inl ⟨_,_,h1,fun did' k'=> ?_⟩
     unfold Qdi
     rw [hl]
     unfold runK
     simp only [hi]
     unfold inlR
     rw [hc,h2]
     unfold inlD
     rw [hs]
     rfl
    ·refine .inr (.inr ⟨h1,fun did' k'=> ?_⟩)
     unfold Qdi
     rw [hl]
     unfold runK
     simp only [hi]
     unfold inlR
     rw [hc,h2]
     rfl
 ·unfold QvK at h
  refine .inl ⟨_,_,h,fun did' k'=> ?_⟩
  unfold Qdi
  rw [hl]
  rfl
theorem Qpz (L:LinI pn inl):∀(l:List Oper) {k:St→Option β} {σ:St},opsK P call inl d ops l k σ=some r→(∃σ1,k σ1=some r∧∀k',opsK P call inl d ops l k' σ=k' σ1)∨(pn=true∧∀k',opsK P call inl d ops l k' σ=some r)
 | [],k,σ,h=> .inl ⟨σ,h,fun _=>rfl⟩
 |o::l,k,σ,h=>by
  have h:Qdi P call inl d σ ops o true (QnR (opsK P call inl d ops l k)) (opsK P call inl d ops l k)=some r:=h
  have two:∀k',opsK P call inl d ops (o::l) k' σ=Qdi P call inl d σ ops o true (QnR (opsK P call inl d ops l k')) (opsK P call inl d ops l k'):=fun _=>rfl
  rcases QtB L h with ⟨D,σ1,h1,h2⟩|⟨σ1,h1,h2⟩|⟨h1,h2⟩
  ·rcases Qpz L l (σ:=σ1) h1 with ⟨σ2,h3,h4⟩|⟨h3,h4⟩
   ·exact .inl ⟨σ2,h3,fun k'=>by rw [two,h2];exact h4 k'⟩
   ·exact .inr ⟨h3,fun k'=>by rw [two,h2];exact h4 k'⟩
  ·rcases Qpz L l h1 with ⟨σ2,h3,h4⟩|⟨h3,h4⟩
   ·exact .inl ⟨σ2,h3,fun k'=>by rw [two,h2];exact h4 k'⟩
   ·exact .inr ⟨h3,fun k'=>by rw [two,h2];exact h4 k'⟩
  ·exact .inr ⟨h1,fun k'=>by rw [two,h2]⟩
theorem QnA:∀(l:List (Nat×Oper)) {σ:St} {acc:List (Nat×Did)} {k:List (Nat×Did)→Option β},Qid P call d ops l σ acc k=some r→
  ∃E,k E=some r∧∀k':List (Nat×Did)→Option β,Qid P call d ops l σ acc k'=k' E
 | [],σ,acc,k,h=>⟨acc,h,fun _=>rfl⟩
 |q::l,σ,acc,k,h=>by
  have h:chkO (q.2.guard.isNone&&(Qa2 σ q.2).isNone) ((opM P d ops q.2).exec call σ (Qdb q.2++Qbg ops q.2) fun w rs=>Qid P call d ops l (Qau σ w) ((q.1,⟨rs,w⟩)::acc) k)=some r:=h
  obtain ⟨h0,h⟩:=Qaf h
  obtain ⟨w,rs,h1,_,h2⟩:=M.exec_local _ h
  obtain ⟨E,h3,h4⟩:=QnA l h1
  refine ⟨E,h3,fun k'=> ?_⟩
  show chkO (q.2.guard.isNone&&(Qa2 σ q.2).isNone) ((opM P d ops q.2).exec call σ (Qdb q.2++Qbg ops q.2) fun w rs=>Qid P call d ops l (Qau σ w) ((q.1,⟨rs,w⟩)::acc) k')=_
  rw [h0,h2 σ ⟨rfl,rfl,fun _=>rfl⟩ (fun l _=>by cases l<;>simp [Loc.same])]
  exact h4 k'
theorem QuD {before:List Nat} {i:Nat} {ds:List Did} {x:Option β} (h:QgJ P call d before ops o i ds σ x=some r):x=some r∧∀x':Option β,QgJ P call d before ops o i ds σ x'=x':=by
 unfold QgJ at h⊢
 cases hp:σ.K.pan with
 |none=>simp only [hp] at h⊢;exact ⟨h,fun _=>trivial⟩
 |some t=>
  simp only [hp] at h⊢
  cases hi:Qa2 σ o with
  |none=>simp only [hi] at h⊢;exact ⟨h,fun _=>trivial⟩
  |some fv=>
   obtain ⟨f,vs⟩:=fv
   simp only [hi] at h⊢
   obtain ⟨h0,h⟩:=Qaf h
   obtain ⟨E,h1,h2⟩:=QnA _ h
   obtain ⟨h3,h4⟩:=Qaf h1
   refine ⟨h4,fun x'=> ?_⟩
   rw [h0,h2,h3]
   rfl
theorem QjY (L:LinI pn inl) {before:List Nat}:∀(l:List Oper) {i:Nat} {ds:List Did} {k:St→Option β} {σ:St},QcX P call inl d before ops l i ds k σ=some r→
  (∃σ1,k σ1=some r∧∀k',QcX P call inl d before ops l i ds k' σ=k' σ1)∨(pn=true∧∀k',QcX P call inl d before ops l i ds k' σ=some r)
 | [],i,ds,k,σ,h=>by
  have h:chkO (Qgk before ops.length ds) (k σ)=some r:=h
  obtain ⟨h1,h2⟩:=Qaf h
  refine .inl ⟨σ,h2,fun k'=> ?_⟩
  show chkO (Qgk before ops.length ds) (k' σ)=_
  rw [h1];rfl
 |o::l,i,ds,k,σ,h=>by
  have two:∀k',QcX P call inl d before ops (o::l) i ds k' σ=QgJ P call d before ops o i ds σ (Qdi P call inl d σ ops o (QhN before i ops.length&&Qgk before i ds) (QrF (QcX P call inl d before ops l) i ds k') (QcX P call inl d before ops l (i+1) [] k')):=fun _=>rfl
  rw [two] at h
  obtain ⟨h,h0⟩:=QuD h
  rcases QtB L h with ⟨D,σ1,h1,h2⟩|⟨σ1,h1,h2⟩|⟨h1,h2⟩
  ·rcases QjY L l (σ:=σ1) h1 with ⟨σ2,h3,h4⟩|⟨h3,h4⟩
   ·exact .inl ⟨σ2,h3,fun k'=>by rw [two,h0,h2];exact h4 k'⟩
   ·exact .inr ⟨h3,fun k'=>by rw [two,h0,h2];exact h4 k'⟩
  ·rcases QjY L l h1 with ⟨σ2,h3,h4⟩|⟨h3,h4⟩
   ·exact .inl ⟨σ2,h3,fun k'=>by rw [two,h0,h2];exact h4 k'⟩
   ·exact .inr ⟨h3,fun k'=>by rw [two,h0,h2];exact h4 k'⟩
  ·exact .inr ⟨h1,fun k'=>by rw [two,h0,h2]⟩
def LinC (pn:Bool) (ev:Code→(Ex→St→Option β)→St→Option β):Prop:=
 ∀(c:Code) (k:Ex→St→Option β) (σ:St) (r:β),ev c k σ=some r→(∃e σ1,k e σ1=some r∧∀k',ev c k' σ=k' e σ1)∨(pn=true∧∀k',ev c k' σ=some r)
theorem Qsd {ev:Code→(Ex→St→Option β)→St→Option β} (E:LinC pn ev) {ts bs:List Nat} {a:Code} {k:Ex→St→Option β}:∀(n:Nat) {σ:St},Qax ev d ts bs a k n σ=some r→
  (∃e σ1,k e σ1=some r∧∀k',Qax ev d ts bs a k' n σ=k' e σ1)∨(pn=true∧∀k',Qax ev d ts bs a k' n σ=some r)
 |0,σ,h=>by cases h
 |n+1,σ,h=>by
  have two:∀k',Qax ev d ts bs a k' (n+1) σ=ev a (Qcz d ts bs (Qax ev d ts bs a k' n) k') σ:=fun _=>rfl
  rw [two] at h
  rcases E _ _ _ _ h with ⟨e,σ1,h1,h2⟩|⟨h1,h2⟩
  ·cases e with
   |normal=>
    have h1:hold (Qax ev d ts bs a k n (clear d ts bs σ1))=some r:=h1
    rw [Qah] at h1
    have three:∀k',Qax ev d ts bs a k' (n+1) σ=Qax ev d ts bs a k' n (clear d ts bs σ1):=fun k'=>by
     rw [two,h2]
     show hold (Qax ev d ts bs a k' n (clear d ts bs σ1))=_
     rw [Qah]
    rcases Qsd E n h1 with ⟨e2,σ2,h3,h4⟩|⟨h3,h4⟩
    ·exact .inl ⟨e2,σ2,h3,fun k'=>by rw [three];exact h4 k'⟩
    ·exact .inr ⟨h3,fun k'=>by rw [three];exact h4 k'⟩
   |exit id=>exact .inl ⟨.exit id,σ1,h1,fun k'=>by rw [two,h2];rfl⟩
   |ret=>exact .inl ⟨.ret,σ1,h1,fun k'=>by rw [two,h2];rfl⟩
  ·exact .inr ⟨h1,fun k'=>by rw [two,h2]⟩
theorem Qld {α γ:Type} (x:α) (k:α→Option γ):optO (some x) k=k x:=rfl
theorem QtD:∀{n:Nat} {x:List CV} {k:List CV→Option β},lits n x k=some r→∃y,k y=some r∧∀k':List CV→Option β,lits n x k'=k' y
 |0,x,k,h=>⟨[],h,fun _=>rfl⟩
 |n+1,x,k,h=>by
  have h:(optO x.head? fun c=>lits n x.tail fun r=>k (c::r))=some r:=h
  obtain ⟨c,hc,h⟩:=Qag h
  obtain ⟨y,h1,h2⟩:=QtD h
  exact ⟨c::y,h1,fun k'=>by
   show (optO x.head? fun c=>lits n x.tail fun r=>k' (c::r))=_
   rw [hc,Qld,h2]⟩
theorem Qqy {ev1:Code→(Ex→St→Option β)→St→Option β} (E:LinC pn ev1) {D:Nat} {asg body:Code} {ps:List Nat} {tm:List AV} {K:Cfg} {items:List (List CV)} {k:Ex→MemT→Option β}:∀(n:Nat) {i:Nat} {mem:MemT},
  Qbv ev1 D asg body ps tm K items k n i mem=some r→(∃e m1,k e m1=some r∧∀k',Qbv ev1 D asg body ps tm K items k' n i mem=k' e m1)∨(pn=true∧∀k',Qbv ev1 D asg body ps tm K items k' n i mem=some r)
 |0,i,mem,h=>by cases h
 |n+1,i,mem,h=>by
  have two:∀k',Qbv ev1 D asg body ps tm K items k' (n+1) i mem=bif decide (i<items.length) then optO items[i]? fun x=>lits ps.length x fun x=>(ev1 asg (Qit ev1 D body (Qbv ev1 D asg body ps tm K items k' n (i+1)) k') {tmps:=Qey tm ps x,mem:=mem++ [List.replicate tm.length none],K:=K}) else k' .normal mem:=fun _=>rfl
  rw [two] at h
  cases hi:decide (i<items.length) with
  |false=>
   rw [hi] at h
   exact .inl ⟨.normal,mem,h,fun k'=>by rw [two,hi];rfl⟩
  |true=>
   rw [hi,cond_true] at h
   obtain ⟨x0,hx,h⟩:=Qag h
   obtain ⟨x,h,hlit⟩:=QtD h
   have two':∀k',Qbv ev1 D asg body ps tm K items k' (n+1) i mem=ev1 asg (Qit ev1 D body (Qbv ev1 D asg body ps tm K items k' n (i+1)) k') {tmps:=Qey tm ps x,mem:=mem++ [List.replicate tm.length none],K:=K}:=fun k'=>by
    rw [two,hi,cond_true,hx,Qld,hlit]
   rcases E _ _ _ _ h with ⟨e,σ1,h1,h2⟩|⟨h1,h2⟩
   ·cases e with
    |normal=>
     have h1:ev1 body (Qjs D (Qbv ev1 D asg body ps tm K items k n (i+1)) k) σ1=some r:=h1
     have two2:∀k',Qbv ev1 D asg body ps tm K items k' (n+1) i mem=ev1 body (Qjs D (Qbv ev1 D asg body ps tm K items k' n (i+1)) k') σ1:=fun k'=>by
      rw [two',h2]
      rfl
     rcases E _ _ _ _ h1 with ⟨e2,σ2,h3,h4⟩|⟨h3,h4⟩
     ·have three:∀k',Qbv ev1 D asg body ps tm K items k' (n+1) i mem=Qjs D (Qbv ev1 D asg body ps tm K items k' n (i+1)) k' e2 σ2:=fun k'=>by
       rw [two2,h4]
      cases e2 with
      |normal=>
       have h3:hold (Qbv ev1 D asg body ps tm K items k n (i+1) (Qdc D σ2.mem))=some r:=h3
       rw [Qah] at h3
       have four:∀k',Qbv ev1 D asg body ps tm K items k' (n+1) i mem=Qbv ev1 D asg body ps tm K items k' n (i+1) (Qdc D σ2.mem):=fun k'=>by
        rw [three]
        show hold (Qbv ev1 D asg body ps tm K items k' n (i+1) (Qdc D σ2.mem))=_
        rw [Qah]
       rcases Qqy E n h3 with ⟨e4,m4,h5,h6⟩|⟨h5,h6⟩
       ·exact .inl ⟨e4,m4,h5,fun k'=>by rw [four];exact h6 k'⟩
       ·exact .inr ⟨h5,fun k'=>by rw [four];exact h6 k'⟩
      |exit id=>exact .inl ⟨.exit id,_,h3,fun k'=>by rw [three];rfl⟩
      |ret=>exact .inl ⟨.ret,_,h3,fun k'=>by rw [three];rfl⟩
     ·exact .inr ⟨h3,fun k'=>by rw [two2];exact h4 _⟩
    |exit id=>cases h1
    |ret=>cases h1
   ·exact .inr ⟨h1,fun k'=>by rw [two'];exact h2 _⟩
theorem QvY (L:LinI pn inl) {rg:Bool} {ev ev1:Code→(Ex→St→Option β)→St→Option β} (E:LinC pn ev) (E1:LinC pn ev1):LinC pn (Qco P call inl m d rg ev ev1):=by
 intro c k σ r h
 cases c with
 |skip=>exact .inl ⟨.normal,σ,h,fun _=>rfl⟩
 |region id ops draw=>
  cases draw with
  |false=>
   cases hp:QnM σ ops.toList with
   |false=>
    have two:∀k',Qco P call inl m d rg ev ev1 (.region id ops false) k' σ=opsK P call inl d ops.toList ops.toList (k' .normal) σ:=fun k'=>by unfold Qco;simp only [hp]
    rw [two] at h
    rcases Qpz L _ h with ⟨σ1,h1,h2⟩|⟨h1,h2⟩
    ·exact .inl ⟨.normal,σ1,h1,fun k'=>by rw [two];exact h2 (k' .normal)⟩
    ·exact .inr ⟨h1,fun k'=>by rw [two];exact h2 (k' .normal)⟩
   |true=>
    have two:∀k',Qco P call inl m d rg ev ev1 (.region id ops false) k' σ=inl panF [] [] fun _ _=>none:=fun k'=>by unfold Qco;simp only [hp]
    rw [two] at h
    rcases L _ _ _ _ _ h with ⟨_,_,h1,_⟩|⟨h1,h2⟩
    ·cases h1
    ·exact .inr ⟨h1,fun k'=>by rw [two];exact h2 _⟩
  |true=>
   have two:∀k',Qco P call inl m d rg ev ev1 (.region id ops true) k' σ=chkO (QcN 0 ops.toList) (QcX P call inl d (Region.before ops).toList ops.toList ops.toList 0 [] (k' .normal) σ):=fun _=>rfl
   rw [two] at h
   obtain ⟨h0,h⟩:=Qaf h
   rcases QjY L _ h with ⟨σ1,h1,h2⟩|⟨h1,h2⟩
   ·exact .inl ⟨.normal,σ1,h1,fun k'=>by rw [two,h0];exact h2 (k' .normal)⟩
   ·exact .inr ⟨h1,fun k'=>by rw [two,h0];exact h2 (k' .normal)⟩
 |seq a b=>
  have two:∀k',Qco P call inl m d rg ev ev1 (.seq a b) k' σ=ev a (seqK ev a b k') σ:=fun _=>rfl
  rw [two] at h
  rcases E a (seqK ev a b k) σ r h with ⟨e,σ1,h1,h2⟩|⟨h1,h2⟩
  ·cases e with
   |normal=>
    have hn:∀k',seqK ev a b k' .normal σ1=ev b k' (tidy a σ1):=fun k'=>by
     unfold seqK
     cases (QsS a b||(Qe5 σ1.K 1000002 a||Qe5 σ1.K 1000005 a))<;>simp only [Qah]
    rw [hn] at h1
    rcases E b k _ _ h1 with ⟨e2,σ2,h3,h4⟩|⟨h3,h4⟩
    ·exact .inl ⟨e2,σ2,h3,fun k'=>by rw [two,h2,hn,h4]⟩
    ·exact .inr ⟨h3,fun k'=>by rw [two,h2,hn,h4]⟩
   |exit id=>exact .inl ⟨.exit id,σ1,h1,fun k'=>by rw [two,h2];rfl⟩
   |ret=>exact .inl ⟨.ret,σ1,h1,fun k'=>by rw [two,h2];rfl⟩
  ·exact .inr ⟨h1,fun k'=>by rw [two,h2]⟩
 |cond c a b=>
  have h:optO (Qnc σ c) (fun t=>bif t then ev a (QeA a b k) σ else ev b (QeA a b k) σ)=some r:=h
  obtain ⟨t,ht,h⟩:=Qag h
  have two:∀k',Qco P call inl m d rg ev ev1 (.cond c a b) k' σ=bif t then ev a (QeA a b k') σ else ev b (QeA a b k') σ:=fun k'=>by
   show optO (Qnc σ c) (fun t=>bif t then ev a (QeA a b k') σ else ev b (QeA a b k') σ)=_
   rw [ht];rfl
  cases t with
  |true=>
   rcases E _ _ _ _ (show ev a (QeA a b k) σ=some r from h) with ⟨e,σ1,h1,h2⟩|⟨h1,h2⟩
   ·exact .inl ⟨e,_,h1,fun k'=>by rw [two];exact h2 _⟩
   ·exact .inr ⟨h1,fun k'=>by rw [two];exact h2 _⟩
  |false=>
   rcases E _ _ _ _ (show ev b (QeA a b k) σ=some r from h) with ⟨e,σ1,h1,h2⟩|⟨h1,h2⟩
   ·exact .inl ⟨e,_,h1,fun k'=>by rw [two];exact h2 _⟩
   ·exact .inr ⟨h1,fun k'=>by rw [two];exact h2 _⟩
 |block id a=>
  have two:∀k',Qco P call inl m d rg ev ev1 (.block id a) k' σ=ev a (Qam id k') σ:=fun _=>rfl
  rw [two] at h
  rcases E a (Qam id k) σ r h with ⟨e,σ1,h1,h2⟩|⟨h1,h2⟩
  ·cases e with
   |normal=>exact .inl ⟨.normal,σ1,h1,fun k'=>by rw [two,h2];rfl⟩
   |exit id'=>
    by_cases hid:id'=id
    ·have hb:∀k':Ex→St→Option β,Qam id k' (.exit id') σ1=k' .normal σ1:=fun k'=>by simp [Qam,hid]
     rw [hb] at h1
     exact .inl ⟨.normal,σ1,h1,fun k'=>by rw [two,h2,hb]⟩
    ·have hb:∀k':Ex→St→Option β,Qam id k' (.exit id') σ1=k' (.exit id') σ1:=fun k'=>by simp [Qam,hid]
     rw [hb] at h1
     exact .inl ⟨.exit id',σ1,h1,fun k'=>by rw [two,h2,hb]⟩
   |ret=>exact .inl ⟨.ret,σ1,h1,fun k'=>by rw [two,h2];rfl⟩
  ·exact .inr ⟨h1,fun k'=>by rw [two,h2]⟩
 |loop a=>
  have two:∀k',Qco P call inl m d rg ev ev1 (.loop a) k' σ=Qax ev d (Qak a++anys σ (Qdh a)) (QlX σ d (Qd1 a)) a k' m (clear d (Qak a++anys σ (Qdh a)) (QlX σ d (Qd1 a)) σ):=fun k'=>by
   unfold Qco
   simp only [Qah]
  rw [two] at h
  rcases Qsd E m h with ⟨e,σ1,h1,h2⟩|⟨h1,h2⟩
  ·exact .inl ⟨e,σ1,h1,fun k'=>by rw [two];exact h2 k'⟩
  ·exact .inr ⟨h1,fun k'=>by rw [two];exact h2 k'⟩
 |exit id=>exact .inl ⟨.exit id,σ,h,fun _=>rfl⟩
 |scope a=>
  rcases E _ _ _ _ (show ev a k σ=some r from h) with ⟨e,σ1,h1,h2⟩|⟨h1,h2⟩
  ·exact .inl ⟨e,σ1,h1,fun k'=>h2 k'⟩
  ·exact .inr ⟨h1,fun k'=>h2 k'⟩
 |label l=>exact .inl ⟨.normal,σ,h,fun _=>rfl⟩
 |ret=>exact .inl ⟨.ret,σ,h,fun _=>rfl⟩
 |rangeFunc g ps asg bd=>
  cases rg with
  |false=>cases h
  |true=>
   have two:∀k',Qco P call inl m d true ev ev1 (.rangeFunc g ps asg bd) k' σ=chkO σ.K.pan.isNone (optO (Qlo d σ g) (fun q=>optO (σ.K.iter q.1) fun it=>optO (it (q.2.map (·.2))) fun items=>chkO (items.all (·.length==ps.size)) (
    hold (Qbv ev1 (d+1) asg bd ps.toList (σ.tmps.map fun v=>v.copy.scrub (capP q.2)) σ.K items (QcS k' (σ.tmps.map fun v=>v.copy.scrub (capP q.2)) σ.K) m 0 (QbD (capP q.2) 0 σ.mem))))):=fun _=>rfl
   rw [two] at h
   obtain ⟨hp0,h⟩:=Qaf h
   obtain ⟨q,hq,h⟩:=Qag h
   obtain ⟨it,hit,h⟩:=Qag h
   obtain ⟨items,hi,h⟩:=Qag h
   obtain ⟨hall,h⟩:=Qaf h
   rw [Qah] at h
   have three:∀k',Qco P call inl m d true ev ev1 (.rangeFunc g ps asg bd) k' σ=Qbv ev1 (d+1) asg bd ps.toList (σ.tmps.map fun v=>v.copy.scrub (capP q.2)) σ.K items (QcS k' (σ.tmps.map fun v=>v.copy.scrub (capP q.2)) σ.K) m 0 (QbD (capP q.2) 0 σ.mem):=fun k'=>by
    rw [two,hp0,hq,Qld,hit,Qld,hi,Qld,hall]
    show hold _=_
    rw [Qah]
   rcases Qqy E1 m h with ⟨e,m1,h1,h2⟩|⟨h1,h2⟩
   ·exact .inl ⟨e,_,h1,fun k'=>by rw [three,h2];rfl⟩
   ·exact .inr ⟨h1,fun k'=>by rw [three,h2]⟩
 |_=>cases h
theorem Qq9 (L:LinI pn inl):∀(j d:Nat) (rg:Bool),LinC pn (evG P call inl m j d rg)
 |0,_,_=>fun _ _ _ _ h=>by cases h
 |j+1,d,rg=>QvY L (Qq9 L j d rg) (Qq9 L j (d+1) false)
theorem QyZ (L:LinI pn inl) (j:Nat):LinC pn (evN P call inl m d j):=Qq9 L j d true
mutual
theorem Qvp {m:MemT} {d:Nat}:∀(v:AV) {k:AV→Option β} {r:β},frz m d v k=some r→∃v',∀k':AV→Option β,frz m d v k'=k' v'
 | .rsl e d' s off len cap,k,r,h=>by
  unfold frz at h
  cases hd:d'==d with
  |false=>exact ⟨_,fun k'=>by unfold frz;simp only [hd];rfl⟩
  |true=>
   simp only [hd] at h
   cases hr:QbV m d' s with
   |row e' l=>
    simp only [hr] at h
    have:=(Qaf h).1
    exact ⟨_,fun k'=>by unfold frz;simp only [hd,hr,this,chkO,cond_true];rfl⟩
   |_=>exact ⟨_,fun k'=>by unfold frz;simp only [hd,hr];rfl⟩
 | .agg cs,k,r,h=>by
  unfold frz at h
  obtain ⟨l,hl⟩:=Ql8 cs h
  exact ⟨_,fun k'=>by unfold frz;exact hl _⟩
 | .tup cs,k,r,h=>by
  unfold frz at h
  obtain ⟨l,hl⟩:=Ql8 cs h
  exact ⟨_,fun k'=>by unfold frz;exact hl _⟩
 | .any,_,_,_=>⟨_,fun _=>rfl⟩
 | .undef,_,_,_=>⟨_,fun _=>rfl⟩
 | .val _,_,_,_=>⟨_,fun _=>rfl⟩
 | .lst ..,_,_,_=>⟨_,fun _=>rfl⟩
 | .ptr ..,_,_,_=>⟨_,fun _=>rfl⟩
 | .cptr ..,_,_,_=>⟨_,fun _=>rfl⟩
 | .clo ..,_,_,_=>⟨_,fun _=>rfl⟩
 | .siter ..,_,_,_=>⟨_,fun _=>rfl⟩
 | .bld ..,_,_,_=>⟨_,fun _=>rfl⟩
 | .row ..,_,_,_=>⟨_,fun _=>rfl⟩
 | .rptr ..,_,_,_=>⟨_,fun _=>rfl⟩
 | .mpp ..,_,_,_=>⟨_,fun _=>rfl⟩
theorem Ql8 {m:MemT} {d:Nat}:∀(l:List AV) {k:List AV→Option β} {r:β},frzL m d l k=some r→∃l',∀k':List AV→Option β,frzL m d l k'=k' l'
 | [],_,_,_=>⟨_,fun _=>rfl⟩
 |v::l,k,r,h=>by
  unfold frzL at h
  obtain ⟨v',hv⟩:=Qvp v h
  rw [hv] at h
  obtain ⟨l',hl⟩:=Ql8 l h
  exact ⟨v'::l',fun k'=>by unfold frzL;rw [hv,hl]⟩
end
theorem QuJ {K:Cfg} (L:LinI pn inl):LinI pn (QaW P K call m inl):=by
 intro f vs mem k r h
 unfold QaW at h
 cases hf:P.funcs[f]? with
 |none=>simp [hf] at h
 |some fn=>
  simp only [hf] at h
  cases hb:fn.body with
  |none=>simp [hb] at h
  |some c=>
   simp only [hb] at h
   rcases QyZ L 1000 c _ _ _ h with ⟨e,σ1,h1,h2⟩|⟨h1,h2⟩
   case inr=>
    refine .inr ⟨h1,fun k'=> ?_⟩
    unfold QaW
    simp only [hf,hb]
    exact h2 _
   left
   have two:∀k',QaW P K call m inl f vs mem k'=QlD P (K.lift f) fn.results.toList mem.length k' e σ1:=fun k'=>by
    unfold QaW
    simp only [hf,hb]
    exact h2 _
   suffices hs:∃v mem',∀k',QlD P (K.lift f) fn.results.toList mem.length k' e σ1=k' v mem' by
    obtain ⟨v,mem',hs⟩:=hs
    exact ⟨v,mem',(hs k).symm.trans h1,fun k'=>(two k').trans (hs k')⟩
   unfold QlD at h1⊢
   cases hl:K.lift f with
   |false=>
    rw [hl] at h1
    simp only at h1⊢
    have fin:(∀k':AV→MemT→Option β,retK P fn.results.toList mem.length k' e σ1=optO (Qei P σ1 fn.results.toList) fun vs=>frz σ1.mem mem.length (Qje vs).copy fun v=>k' (v.copy.scrub fun d' _=>d'==mem.length) (Qaw (fun d' _=>d'==mem.length) (σ1.mem.take mem.length)))→
      ∃v mem',∀k':AV→MemT→Option β,retK P fn.results.toList mem.length k' e σ1=k' v mem':=by
     intro he
     rw [he] at h1
     obtain ⟨rv,hr,h1⟩:=Qag h1
     obtain ⟨v',hv⟩:=Qvp _ h1
     exact ⟨_,_,fun k'=>by rw [he,hr];simp only [optO];rw [hv]⟩
    cases e with
    |exit id=>cases h1
    |normal=>exact fin fun _=>rfl
    |ret=>exact fin fun _=>rfl
   |true=>
    rw [hl] at h1
    simp only at h1⊢
    cases hd:mem.length with
    |zero=>rw [hd] at h1;cases e<;>cases h1
    |succ d=>
     rw [hd] at h1
     have fin:(∀k':AV→MemT→Option β,retL P fn.results.toList (d+1) k' e σ1=optO (Qei P σ1 fn.results.toList) fun vs=>
       k' ((Qje vs).copy.ren (renP (d+1) (nthD [] σ1.mem d).length (Qa7 0 (nthD [] σ1.mem (d+1))))) (Qes (d+1) σ1.mem (Qa7 0 (nthD [] σ1.mem (d+1)))))→
       ∃v mem',∀k':AV→MemT→Option β,retL P fn.results.toList (d+1) k' e σ1=k' v mem':=by
      intro he
      rw [he] at h1
      obtain ⟨rv,hr,h1⟩:=Qag h1
      exact ⟨_,_,fun k'=>by rw [he,hr];rfl⟩
     cases e with
     |exit id=>cases h1
     |normal=>exact fin fun _=>rfl
     |ret=>exact fin fun _=>rfl
theorem QvB {K:Cfg} (L:LinI pn inl):LinI pn (Qbl K inl):=by
 intro f vs mem k r h
 unfold Qbl at h
 cases hg:K.hook f with
 |none=>
  simp only [hg] at h
  rcases L _ _ _ _ _ h with ⟨v,mem',h1,h2⟩|⟨h1,h2⟩
  ·exact .inl ⟨v,mem',h1,fun k'=>by unfold Qbl;simp only [hg];exact h2 k'⟩
  ·exact .inr ⟨h1,fun k'=>by unfold Qbl;simp only [hg];exact h2 k'⟩
 |some g=>
  simp only [hg] at h
  obtain ⟨q,hq,h⟩:=Qag h
  obtain ⟨b,hb,h⟩:=Qag h
  exact .inl ⟨_,_,h,fun k'=>by unfold Qbl;simp only [hg,hq,hb,optO]⟩
end Go.Am
namespace Go.Am
open Go.RowKit
variable {P:Program} {B:Nat} {W0:Base} {d:Nat} {σ:St} {a:Act} {w:World} {G:Gh} {β:Type} {call:FuncId→List CV→Option CV}
 {inl:FuncId→List AV→MemT→(AV→MemT→Option β)→Option β} {acc:List Loc} {r:β} {o:Oper} {ops:Array Oper} {ρ:Option Nat} {ν:Nat} {ZZ:List PanicEntry→Prop} {Z:β→List PanicEntry→Prop}
theorem QkB {i:Nat} (hi:ops[i]?=some o) {rest:List Nat} {Q:Exit→Act→World→Prop} (h:wpO ρ ν P ops Q o (wpOpsIn (FR ρ) ν P ops Q rest) a w):wpOpsIn (FR ρ) ν P ops Q (i::rest) a w:=by
 simp only [wpOpsIn,hi]
 unfold wpO at h
 split
 ·rename_i hw;rw [if_pos hw] at h;exact h
 ·rename_i hw;rw [if_neg hw] at h;exact ⟨fun _ _=>trivial,h⟩
theorem Ql1 (SE:Qa5 P) (CO:CallOK P B W0 call) (Iok:InlOK Z P B W0 inl) {Q:Exit→Act→World→Prop}:∀(l:List Oper) (i:Nat),ops.toList.drop i=l→∀{k:St→Option β} {σ:St},
  opsK P call inl d ops.toList l k σ=some r→∀a w G,Sim P B W0 d σ a w G→PanQ (Z r) B d w G Q→(∀a' w' G' σ',Sim P B W0 d σ' a' w' G'→Keeps B d w w' G G'→k σ'=some r→Q .normal a' w')→
  wpOpsIn (FR ρ) ν P ops Q (List.range' i (ops.size-i)) a w
 | [],i,hl,k,σ,h,a,w,G,S,hP,hQ=>by
  have:ops.size≤i:=by simpa using hl
  rw [show ops.size-i=0 by omega]
  simp only [List.range'_zero,wpOpsIn]
  exact hQ _ _ G σ S (Keeps.refl _ _ _ _) h
 |o::l,i,hl,k,σ,h,a,w,G,S,hP,hQ=>by
  have hi:i<ops.size:=Decidable.byContradiction fun hn=>by
   rw [List.drop_eq_nil_of_le (by simp;omega)] at hl;cases hl
  have ho:ops[i]?=some o:=by
   have:(ops.toList.drop i)[0]?=some o:=by rw [hl];rfl
   simpa using this
  have hl':ops.toList.drop (i+1)=l:=by
   have:(ops.toList.drop i).drop 1=l:=by rw [hl];rfl
   simpa [List.drop_drop,Nat.add_comm] using this
  rw [show ops.size-i=(ops.size-(i+1))+1 by omega,List.range'_succ]
  refine QkB ho ?_
  change Qdi P call inl d σ ops.toList o true (QnR (opsK P call inl d ops.toList l k)) (opsK P call inl d ops.toList l k)=some r at h
  rcases QqC SE CO Iok h with ⟨D,h,hm⟩|⟨_,hm⟩|⟨hf,_⟩
  ·refine hm σ ⟨rfl,rfl,fun _=>rfl⟩ (fun l _=>by cases l<;>simp [Loc.same]) a w G S _ Q hP fun a' w' G' S' K'=> ?_
   exact Ql1 SE CO Iok l (i+1) hl' h a' w' G' S' (hP.trans K') fun a'' w'' G'' σ'' S'' K'' hk=>hQ _ _ _ _ S'' (K'.trans K'') hk
  ·refine hm a w G S _ Q hP fun a' w' G' σ' S' K' h=> ?_
   exact Ql1 SE CO Iok l (i+1) hl' h a' w' G' S' (hP.trans K') fun a'' w'' G'' σ'' S'' K'' hk=>hQ _ _ _ _ S'' (K'.trans K'') hk
  ·cases hf
theorem Qkg {α:Type}:∀(l:List α) {i j:Nat} (x y:α),i≠j→setN (setN l i x) j y=setN (setN l j y) i x
 | [],_,_,_,_,_=>rfl
 |_::_,0,0,_,_,h=>absurd rfl h
 |_::_,0,_+1,_,_,_=>rfl
 |_::_,_+1,0,_,_,_=>rfl
 |z::l,i+1,j+1,x,y,h=>by simp only [setN,Qkg l x y (fun e=>h (congrArg (· +1) e))]
theorem QiE {α:Type}:∀(l:List α) {i:Nat} (x y:α),setN (setN l i x) i y=setN l i y
 | [],_,_,_=>rfl
 |_::_,0,_,_=>rfl
 |z::l,i+1,x,y=>by simp only [setN,QiE l x y]
theorem box?_setBox (m:MemT) (d s:Nat) (c:List AV) (d' s':Nat):box? (QaI m d s c) d' s'=if d'=d∧s'=s∧d<m.length∧s<(nthD [] m d).length then some c else box? m d' s':=by
 unfold box? QaI
 rw [QaL]
 by_cases h:d'=d∧d<m.length
 ·rw [if_pos h]
  obtain ⟨rfl,h⟩:=h
  rw [QaL]
  by_cases h2:s'=s∧s<(nthD [] m d').length
  ·rw [if_pos h2,if_pos ⟨rfl,h2.1,h,h2.2⟩]
  ·rw [if_neg h2,if_neg (fun q=>h2 ⟨q.2.1,q.2.2.2⟩)]
 ·rw [if_neg h,if_neg (fun q=>h ⟨q.1,q.2.2.1⟩)]
theorem QoN (m:MemT) {d s d' s':Nat} (c c':List AV) (h:¬(d=d'∧s=s')):QaI (QaI m d s c) d' s' c'=QaI (QaI m d' s' c') d s c:=by
 unfold QaI
 by_cases hd:d=d'
 ·subst hd
  have hs:s≠s':=fun e=>h ⟨rfl,e⟩
  rw [QiE,QiE,QaL,QaL]
  by_cases hl:d<m.length
  ·rw [if_pos ⟨rfl,hl⟩,if_pos ⟨rfl,hl⟩,Qkg _ _ _ hs]
  ·rw [if_neg (fun q=>hl q.2),if_neg (fun q=>hl q.2)]
   have:∀x,setN m d x=m:=fun x=>by
    have:∀(m:MemT) (d:Nat),¬d<m.length→setN m d x=m:=by
     intro m
     induction m with
     |nil=>intro d _;rfl
     |cons y m ih=>intro d h;cases d with
      |zero=>simp at h
      |succ d=>simp only [setN];rw [ih d (by simpa using h)]
    exact this m d hl
   rw [this,this]
 ·rw [QaL,QaL,if_neg (fun q=>hd q.1.symm),if_neg (fun q=>hd q.1),Qkg _ _ _ hd]
theorem Qb0 {m:MemT} {d s o:Nat} {v:AV} {c:List AV} (h:box? m d s=some c):setCell m d s o v=QaI m d s (wr c o v):=by simp [setCell,h]
theorem QbY {m:MemT} {d s o:Nat} {v:AV} (h:box? m d s=none):setCell m d s o v=m:=by simp [setCell,h]
theorem box?_lt {m:MemT} {d s:Nat} {c:List AV} (h:box? m d s=some c):d<m.length∧s<(nthD [] m d).length:=by
 unfold box? at h
 refine ⟨Decidable.byContradiction fun hn=> ?_,Decidable.byContradiction fun hn=> ?_⟩
 ·rw [Qar [] m,List.getElem?_eq_none (by omega)] at h;simp [nthD] at h
 ·rw [Qar none,List.getElem?_eq_none (by omega)] at h;simp at h
theorem QhQ (m:MemT) {d s o d' s':Nat} (v:AV) (c:List AV) (h:¬(d=d'∧s=s')):setCell (QaI m d' s' c) d s o v=QaI (setCell m d s o v) d' s' c:=by
 have e:box? (QaI m d' s' c) d s=box? m d s:=by rw [box?_setBox,if_neg (fun q=>h ⟨q.1,q.2.1⟩)]
 cases hb:box? m d s with
 |none=>rw [QbY hb,QbY (e.trans hb)]
 |some x=>rw [Qb0 hb,Qb0 (e.trans hb),QoN _ _ _ (fun q=>h ⟨q.1.symm,q.2.symm⟩)]
theorem Qmz (m:MemT) (d s:Nat) (c c':List AV):QaI (QaI m d s c) d s c'=QaI m d s c':=by
 unfold QaI
 rw [QiE,QaL]
 by_cases hl:d<m.length
 ·rw [if_pos ⟨rfl,hl⟩,QiE]
 ·rw [if_neg (fun q=>hl q.2)]
theorem QtK (m:MemT) {d s o d' s' o':Nat} (v v':AV) (h:¬(d=d'∧s=s'∧o=o')):setCell (setCell m d s o v) d' s' o' v'=setCell (setCell m d' s' o' v') d s o v:=by
 by_cases hb:d=d'∧s=s'
 ·obtain ⟨rfl,rfl⟩:=hb
  have ho:o≠o':=fun e=>h ⟨rfl,rfl,e⟩
  cases hx:box? m d s with
  |none=>rw [QbY hx,QbY hx,QbY hx]
  |some c=>
   have hlt:=box?_lt hx
   have e:∀c',box? (QaI m d s c') d s=some c':=fun c'=>by rw [box?_setBox,if_pos ⟨rfl,rfl,hlt.1,hlt.2⟩]
   rw [Qb0 hx,Qb0 hx,Qb0 (e _),Qb0 (e _),Qmz,Qmz,QyU _ _ _ ho]
 ·cases hx:box? m d s with
  |none=>
   rw [QbY hx]
   cases hy:box? m d' s' with
   |none=>rw [QbY hy,QbY hx]
   |some c=>rw [Qb0 hy,QbY];rw [box?_setBox,if_neg (fun q=>hb ⟨q.1,q.2.1⟩)];exact hx
  |some c=>
   rw [Qb0 hx,QhQ _ _ _ (fun q=>hb ⟨q.1.symm,q.2.symm⟩)]
   refine (Qb0 ?_).symm
   cases hy:box? m d' s' with
   |none=>rw [QbY hy];exact hx
   |some c'=>rw [Qb0 hy,box?_setBox,if_neg (fun q=>hb ⟨q.1,q.2.1⟩)];exact hx
theorem W.comm (σ:St) {x y:W} (h:x.clash y=false):y.apply (x.apply σ)=x.apply (y.apply σ):=by
 cases x<;>cases y<;>first|(exfalso;simp [W.clash] at h;done)|simp only [W.clash,W.apply,beq_eq_false_iff_ne,ne_eq] at h⊢
 ·rw [Qkg _ _ _ h]
 ·rename_i d s o v d' s' o' v'
  rw [QtK _ _ _ (by intro q;simp [q] at h)]
 ·rename_i d s o v d' s' c
  rw [QhQ _ _ _ (by intro q;simp [q] at h)]
 ·rename_i d s c d' s' o v
  rw [QhQ _ _ _ (by intro q;simp [q] at h)]
 ·rename_i d s c d' s' c'
  rw [QoN _ _ _ (by intro q;simp [q] at h)]
theorem QnE (x:W):∀(ws:List W) (σ:St),(∀y∈ws,x.clash y=false)→Qau (x.apply σ) ws=x.apply (Qau σ ws)
 | [],_,_=>rfl
 |y::ws,σ,h=>by
  simp only [Qau]
  rw [W.comm σ (h y (by simp)),QnE x ws _ fun z hz=>h z (by simp [hz])]
theorem QoB:∀(ws vs:List W) (σ:St),(∀x∈ws,∀y∈vs,x.clash y=false)→Qau (Qau σ ws) vs=Qau (Qau σ vs) ws
 | [],_,_,_=>rfl
 |x::ws,vs,σ,h=>by
  simp only [Qau]
  rw [QoB ws vs _ fun z hz=>h z (by simp [hz]),QnE x vs σ (h x (by simp))]
theorem W.shape (σ:St) (x:W):Shape σ (x.apply σ):=by
 have hbox:∀(m:MemT) (d s:Nat) (c:List AV),(QaI m d s c).length=m.length∧∀e,(nthD [] (QaI m d s c) e).length=(nthD [] m e).length:=fun m d s c=>by
  refine ⟨by simp [QaI,QaK],fun e=> ?_⟩
  unfold QaI
  rw [QaL]
  by_cases h:e=d∧d<m.length
  ·rw [if_pos h,QaK,h.1]
  ·rw [if_neg h]
 cases x with
 |tmp i v=>exact ⟨by simp [W.apply,QaK],rfl,fun _=>rfl⟩
 |cell d s o v=>
  simp only [W.apply,setCell]
  split
  ·exact ⟨rfl,(hbox _ _ _ _).1,(hbox _ _ _ _).2⟩
  ·exact ⟨rfl,rfl,fun _=>rfl⟩
 |box d s c=>exact ⟨rfl,(hbox _ _ _ _).1,(hbox _ _ _ _).2⟩
 |grow d s c=>
  have hs:∀(p:Nat→Nat→Bool) (m:MemT),(Qaw p m).length=m.length∧∀e,(nthD [] (Qaw p m) e).length=(nthD [] m e).length:=fun p m=>by
   refine ⟨by simp [Qaw],fun e=> ?_⟩
   unfold Qaw
   rw [Qec _ [] [] rfl]
   simp
  exact ⟨by simp [W.apply],((hbox _ _ _ _).1).trans (hs _ _).1,fun e=>((hbox _ _ _ _).2 e).trans ((hs _ _).2 e)⟩
theorem Shape.refl (σ:St):Shape σ σ:=⟨rfl,rfl,fun _=>rfl⟩
theorem Shape.trans {a b c:St} (h:Shape a b) (k:Shape b c):Shape a c:=⟨k.1.trans h.1,k.2.1.trans h.2.1,fun d=>(k.2.2 d).trans (h.2.2 d)⟩
theorem Shape.symm {a b:St} (h:Shape a b):Shape b a:=⟨h.1.symm,h.2.1.symm,fun d=>(h.2.2 d).symm⟩
theorem Qj7:∀(ws:List W) (σ:St),Shape σ (Qau σ ws)
 | [],σ=>Shape.refl σ
 |x::ws,σ=>(x.shape σ).trans (Qj7 ws _)
theorem Loc.same.refl (σ:St) (l:Loc):Loc.same σ σ l:=by cases l<;>simp [Loc.same]
theorem Loc.same.trans {a b c:St} {l:Loc} (h:Loc.same a b l) (k:Loc.same b c l):Loc.same a c l:=by
 cases l with
 |tmp i=>exact Eq.trans k h
 |glob g=>exact Eq.trans k h
 |own g=>exact Eq.trans k h
 |row e s n=>exact Eq.trans k h
 |cell d s o=>exact ⟨k.1.trans h.1,k.2.trans h.2⟩
 |box d s=>exact ⟨k.1.trans h.1,k.2.trans h.2⟩
theorem Loc.same.symm {a b:St} {l:Loc} (h:Loc.same a b l):Loc.same b a l:=by
 cases l with
 |tmp i=>exact Eq.symm h
 |glob g=>exact Eq.symm h
 |own g=>exact Eq.symm h
 |row e s n=>exact Eq.symm h
 |cell d s o=>exact ⟨h.1.symm,h.2.symm⟩
 |box d s=>exact ⟨h.1.symm,h.2.symm⟩
theorem box?_setCell (m:MemT) (d s o:Nat) (v:AV) (d' s':Nat):box? (setCell m d s o v) d' s'=if d'=d∧s'=s then (box? m d s).map (fun c=>wr c o v) else box? m d' s':=by
 cases hx:box? m d s with
 |none=>
  rw [QbY hx]
  by_cases h:d'=d∧s'=s
  ·rw [if_pos h,h.1,h.2,hx];rfl
  ·rw [if_neg h]
 |some c=>
  have hlt:=box?_lt hx
  rw [Qb0 hx,box?_setBox]
  by_cases h:d'=d∧s'=s
  ·rw [if_pos ⟨h.1,h.2,hlt.1,hlt.2⟩,if_pos h];rfl
  ·rw [if_neg (fun q=>h ⟨q.1,q.2.1⟩),if_neg h]
theorem Qb2 {m m':MemT} {d s:Nat} (h:box? m' d s=box? m d s):QbV m' d s=QbV m d s:=by simp only [QbV,h]
theorem QxR {m m':MemT} {d s o:Nat} {v:AV} (h:box? m' d s=(box? m d s).map fun c=>wr c o v):QbV m' d s=QbV m d s:=by
 cases hc:box? m d s with
 |none=>
  rw [hc] at h
  exact Qb2 (by rw [h,hc];rfl)
 |some c=>
  rw [hc] at h
  cases hr:Qaz c with
  |true=>exact Qb2 (by rw [h,hc];simp [wr,hr])
  |false=>
   have no:∀{m:MemT} {x:List AV},box? m d s=some x→Qaz x=false→QbV m d s= .any:=fun {m x} hx hr=>by
    unfold QbV
    split
    ·rename_i hx'
     rw [hx] at hx'
     cases hx'
     simp [Qaz] at hr
    ·rfl
   rw [no hc hr,no h (by rw [Qti];exact hr)]
theorem QoE {m:MemT} {d s:Nat} (p:Nat→Nat→Bool):QbV (Qaw p m) d s=QbV m d s:=by
 have hx:=box?_scrub (p:=p) m d s
 cases hc:box? m d s with
 |none=>exact Qb2 (by rw [hx,hc];rfl)
 |some c=>
  rw [hc] at hx
  cases hr:Qaz c with
  |true=>
   obtain ⟨e,l,rfl⟩:=Qc8 hr
   exact Qb2 (by rw [hx,hc];rfl)
  |false=>
   have no:∀{m:MemT} {x:List AV},box? m d s=some x→Qaz x=false→QbV m d s= .any:=fun {m x} hx hr=>by
    unfold QbV
    split
    ·rename_i hx'
     rw [hx] at hx'
     cases hx'
     simp [Qaz] at hr
    ·rfl
   rw [no hc hr,no hx (by rw [Qe6];exact hr)]
theorem W.miss (σ:St) {x:W} {l:Loc} (h:l.hit x=false):Loc.same σ (x.apply σ) l:=by
 cases x with
 |tmp i v=>cases l with
  |tmp j=>simp only [Loc.hit,beq_eq_false_iff_ne,ne_eq] at h;simp only [Loc.same,W.apply];rw [QaL,if_neg (fun q=>h q.1)]
  |cell _ _ _=>simp [Loc.same,W.apply,St.has]
  |box _ _=>simp [Loc.same,W.apply]
  |glob _=>simp [Loc.same,W.apply]
  |own _=>simp [Loc.same,W.apply]
  |row _ _ _=>simp [Loc.same,W.apply]
 |grow d s c=>cases l<;>simp [Loc.hit] at h
 |cell d s o v=>cases l with
  |tmp j=>simp [Loc.same,W.apply]
  |glob _=>simp [Loc.same,W.apply]
  |own _=>simp [Loc.same,W.apply]
  |row _ _ _=>simp [Loc.same,W.apply]
  |cell d' s' o'=>
   simp only [Loc.hit] at h
   simp only [Loc.same,W.apply,St.has,Qbm]
   rw [box?_setCell]
   by_cases e:d'=d∧s'=s
   ·obtain ⟨rfl,rfl⟩:=e
    have ho:o'≠o:=fun q=>by simp [q] at h
    rw [if_pos ⟨rfl,rfl⟩]
    cases box? σ.mem d' s' with
    |none=>exact ⟨rfl,rfl⟩
    |some c=>simp [Qim,Qk7,ho]
   ·rw [if_neg e];exact ⟨rfl,rfl⟩
  |box d' s'=>
   simp only [Loc.same,W.apply]
   by_cases e:d'=d∧s'=s
   ·obtain ⟨rfl,rfl⟩:=e
    have hb:=box?_setCell σ.mem d' s' o v d' s'
    rw [if_pos ⟨rfl,rfl⟩] at hb
    exact ⟨by rw [hb];cases box? σ.mem d' s'<;>rfl,QxR hb⟩
   ·have hb:=box?_setCell σ.mem d s o v d' s'
    rw [if_neg e] at hb
    exact ⟨by rw [hb],Qb2 hb⟩
 |box d s c=>cases l with
  |tmp j=>simp [Loc.same,W.apply]
  |glob _=>simp [Loc.same,W.apply]
  |own _=>simp [Loc.same,W.apply]
  |row _ _ _=>simp [Loc.same,W.apply]
  |cell d' s' o'=>
   simp only [Loc.hit] at h
   have e:box? (QaI σ.mem d s c) d' s'=box? σ.mem d' s':=by rw [box?_setBox,if_neg (fun q=>by simp [q.1,q.2.1] at h)]
   simp only [Loc.same,W.apply,St.has,Qbm,e,and_self]
  |box d' s'=>
   simp only [Loc.hit] at h
   have e:box? (QaI σ.mem d s c) d' s'=box? σ.mem d' s':=by rw [box?_setBox,if_neg (fun q=>by simp [q.1,q.2.1] at h)]
   simp only [Loc.same,W.apply]
   exact ⟨by rw [e],Qb2 e⟩
theorem W.both {σ σ':St} (hs:Shape σ σ') {l:Loc} (h:Loc.same σ σ' l) (x:W):Loc.same (x.apply σ) (x.apply σ') l:=by
 cases hh:l.hit x with
 |false=>exact ((W.miss σ hh).symm.trans h).trans (W.miss σ' hh)
 |true=>
  cases x with
  |tmp i v=>cases l with
   |tmp j=>simp only [Loc.hit,beq_iff_eq] at hh;subst hh;simp only [Loc.same,W.apply,QaL,hs.1];split<;>first|rfl|exact h
   |cell _ _ _=>simp [Loc.hit] at hh
   |box _ _=>simp [Loc.hit] at hh
   |glob _=>simp [Loc.hit] at hh
   |own _=>simp [Loc.hit] at hh
   |row _ _ _=>simp [Loc.hit] at hh
  |grow d s c=>
   have hl:(Qaw (atP d s) σ'.mem).length=(Qaw (atP d s) σ.mem).length:=by simp [Qaw,hs.2.1]
   have hl2:(nthD [] (Qaw (atP d s) σ'.mem) d).length=(nthD [] (Qaw (atP d s) σ.mem) d).length:=by
    unfold Qaw
    rw [Qec _ [] [] rfl,Qec _ [] [] rfl]
    simp [hs.2.2 d]
   cases l with
   |tmp j=>
    have h:nthD .any σ'.tmps j=nthD .any σ.tmps j:=h
    have e:∀t:List AV,nthD .any (t.map (AV.scrub (atP d s))) j=(nthD .any t j).scrub (atP d s):=fun t=>Qec _ AV.any AV.any rfl t j
    simp only [Loc.same,W.apply,e,h]
   |glob _=>exact h
   |own _=>exact h
   |row _ _ _=>exact h
   |cell d' s' o'=>
    simp only [Loc.same,W.apply,St.has,Qbm] at h⊢
    rw [box?_setBox,box?_setBox]
    simp only [hl,hl2]
    by_cases e:d'=d∧s'=s∧d<(Qaw (atP d s) σ.mem).length∧s<(nthD [] (Qaw (atP d s) σ.mem) d).length
    ·rw [if_pos e,if_pos e];exact ⟨rfl,rfl⟩
    ·rw [if_neg e,if_neg e,box?_scrub,box?_scrub]
     have nc:∀c:List AV,QcB (c.map (AV.scrub (atP d s)))=QcB c:=fun c=>by simp [QcB,Qe6]
     have nt:∀c:List AV,nthD .any (c.map (AV.scrub (atP d s))) o'=(nthD .any c o').scrub (atP d s):=fun c=>Qec _ AV.any AV.any rfl c o'
     cases hx:box? σ.mem d' s'<;>cases hy:box? σ'.mem d' s'<;>rw [hx,hy] at h<;>simp only [Option.map_some,Option.map_none,nc,nt] at h⊢
     ·trivial
     ·exact ⟨h.1,by rw [h.2];rfl⟩
     ·exact ⟨h.1,by rw [←h.2];rfl⟩
     ·exact ⟨h.1,by rw [h.2]⟩
   |box d' s'=>
    simp only [Loc.same,W.apply] at h⊢
    by_cases e:d'=d∧s'=s∧d<(Qaw (atP d s) σ.mem).length∧s<(nthD [] (Qaw (atP d s) σ.mem) d).length
    ·have e1:box? (QaI (Qaw (atP d s) σ.mem) d s c) d' s'=some c:=by rw [box?_setBox,if_pos e]
     have e2:box? (QaI (Qaw (atP d s) σ'.mem) d s c) d' s'=some c:=by rw [box?_setBox];simp only [hl,hl2];rw [if_pos e]
     exact ⟨by rw [e1,e2],Qb2 (e2.trans e1.symm)⟩
    ·have e1:box? (QaI (Qaw (atP d s) σ.mem) d s c) d' s'=box? (Qaw (atP d s) σ.mem) d' s':=by rw [box?_setBox,if_neg e]
     have e2:box? (QaI (Qaw (atP d s) σ'.mem) d s c) d' s'=box? (Qaw (atP d s) σ'.mem) d' s':=by rw [box?_setBox];simp only [hl,hl2];rw [if_neg e]
     refine ⟨?_,by rw [Qb2 e1,Qb2 e2,QoE,QoE];exact h.2⟩
     rw [e1,e2,box?_scrub,box?_scrub]
     have h1:=h.1
     cases hx:box? σ.mem d' s'<;>cases hy:box? σ'.mem d' s'<;>rw [hx,hy] at h1<;>simp at h1⊢
  |cell d s o v=>cases l with
   |tmp j=>simp [Loc.hit] at hh
   |glob _=>simp [Loc.hit] at hh
   |own _=>simp [Loc.hit] at hh
   |row _ _ _=>simp [Loc.hit] at hh
   |box _ _=>simp [Loc.hit] at hh
   |cell d' s' o'=>
    simp only [Loc.hit,Bool.and_eq_true,beq_iff_eq] at hh
    obtain ⟨⟨rfl,rfl⟩,rfl⟩:=hh
    simp only [Loc.same,W.apply,St.has,Qbm] at h⊢
    rw [box?_setCell,box?_setCell,if_pos ⟨rfl,rfl⟩,if_pos ⟨rfl,rfl⟩]
    obtain ⟨h1,h2⟩:=h
    cases hx:box? σ.mem d' s' with
    |none=>cases hy:box? σ'.mem d' s' with
     |none=>exact ⟨rfl,rfl⟩
     |some c=>
      rw [hx,hy] at h1 h2
      have e:¬o'<QcB c:=by simpa using h1
      simp only [Option.map_some,Option.map_none,Qim,Qk7,e,false_and,and_false,if_false]
      exact ⟨by simp,h2⟩
    |some c=>cases hy:box? σ'.mem d' s' with
     |none=>
      rw [hx,hy] at h1 h2
      have e:¬o'<QcB c:=by simpa using h1.symm
      simp only [Option.map_some,Option.map_none,Qim,Qk7,e,false_and,and_false,if_false]
      exact ⟨by simp,h2⟩
     |some c'=>
      rw [hx,hy] at h1 h2
      have e:(o'<QcB c')=(o'<QcB c):=by simpa using h1
      simp only [Option.map_some,Qim,Qk7,e]
      refine ⟨trivial, ?_⟩
      split
      ·rfl
      ·exact h2
  |box d s c=>cases l with
   |tmp j=>simp [Loc.hit] at hh
   |glob _=>simp [Loc.hit] at hh
   |own _=>simp [Loc.hit] at hh
   |row _ _ _=>simp [Loc.hit] at hh
   |cell d' s' o'=>
    simp only [Loc.hit,Bool.and_eq_true,beq_iff_eq] at hh
    obtain ⟨rfl,rfl⟩:=hh
    simp only [Loc.same,W.apply,St.has,Qbm] at h⊢
    rw [box?_setBox,box?_setBox]
    simp only [hs.2.1,hs.2.2 d',true_and]
    by_cases e:d'<σ.mem.length∧s'<(nthD [] σ.mem d').length
    ·rw [if_pos e,if_pos e];exact ⟨rfl,rfl⟩
    ·rw [if_neg e,if_neg e];exact h
   |box d' s'=>
    simp only [Loc.hit,Bool.and_eq_true,beq_iff_eq] at hh
    obtain ⟨rfl,rfl⟩:=hh
    simp only [Loc.same,W.apply] at h⊢
    by_cases e:d'<σ.mem.length∧s'<(nthD [] σ.mem d').length
    ·have e1:box? (QaI σ.mem d' s' c) d' s'=some c:=by rw [box?_setBox,if_pos ⟨rfl,rfl,e.1,e.2⟩]
     have e2:box? (QaI σ'.mem d' s' c) d' s'=some c:=by rw [box?_setBox,if_pos ⟨rfl,rfl,by rw [hs.2.1];exact e.1,by rw [hs.2.2];exact e.2⟩]
     exact ⟨by rw [e1,e2],Qb2 (e2.trans e1.symm)⟩
    ·have e1:box? (QaI σ.mem d' s' c) d' s'=box? σ.mem d' s':=by rw [box?_setBox,if_neg (fun q=>e ⟨q.2.2.1,q.2.2.2⟩)]
     have e2:box? (QaI σ'.mem d' s' c) d' s'=box? σ'.mem d' s':=by rw [box?_setBox,if_neg (fun q=>e ⟨by rw [←hs.2.1];exact q.2.2.1,by rw [←hs.2.2];exact q.2.2.2⟩)]
     exact ⟨by rw [e1,e2];exact h.1,by rw [Qb2 e1,Qb2 e2];exact h.2⟩
theorem QoM:∀(ws:List W) {σ σ':St},Shape σ σ'→∀{l:Loc},Loc.same σ σ' l→Loc.same (Qau σ ws) (Qau σ' ws) l∧Shape (Qau σ ws) (Qau σ' ws)
 | [],_,_,hs,_,h=>⟨h,hs⟩
 |x::ws,σ,σ',hs,l,h=>by
  simp only [Qau]
  exact QoM ws (((x.shape σ).symm.trans hs).trans (x.shape σ')) (W.both hs h x)
theorem QkW:∀(ws:List W) (σ:St) {l:Loc},(∀x∈ws,l.hit x=false)→Loc.same σ (Qau σ ws) l
 | [],σ,l,_=>Loc.same.refl σ l
 |x::ws,σ,l,h=>by
  simp only [Qau]
  exact (W.miss σ (h x (by simp))).trans (QkW ws _ fun y hy=>h y (by simp [hy]))
end Go.Am
namespace Go.Am
open Go.RowKit
variable {P:Program} {B:Nat} {W0:Base} {d:Nat} {σ:St} {a:Act} {w:World} {G:Gh} {β:Type} {call:FuncId→List CV→Option CV}
 {inl:FuncId→List AV→MemT→(AV→MemT→Option β)→Option β} {acc:List Loc} {r:β} {o:Oper} {ops:Array Oper} {ρ:Option Nat} {ν:Nat} {ZZ:List PanicEntry→Prop} {Z:β→List PanicEntry→Prop}
def Qj1 (look:Nat→Nat) (s:Nat) (e:Edge):Nat:=if Region.binds .any e then s|||2^e.on|||look e.on else s
theorem Qsj (look:Nat→Nat) {i:Nat}:∀(l:List Edge) (s:Nat),(l.foldl (Qj1 look) s).testBit i=true→s.testBit i=true∨∃e∈l,Region.binds .any e=true∧(e.on=i∨(look e.on).testBit i=true)
 | [],s,h=> .inl h
 |e::l,s,h=>by
  rcases Qsj look l _ h with h|⟨e',h1,h2⟩
  ·unfold Qj1 at h
   by_cases hb:Region.binds .any e
   ·rw [if_pos hb] at h
    rw [Nat.testBit_or,Nat.testBit_or,Bool.or_eq_true,Bool.or_eq_true] at h
    rcases h with (h|h)|h
    ·exact .inl h
    ·rw [Nat.testBit_two_pow] at h
     exact .inr ⟨e,by simp,hb, .inl (by simpa using h)⟩
    ·exact .inr ⟨e,by simp,hb, .inr h⟩
   ·rw [if_neg hb] at h;exact .inl h
  ·exact .inr ⟨e',by simp [h1],h2⟩
def QbU (acc:Array Nat) (o:Oper):Array Nat:=acc.push (o.after.toList.foldl (Qj1 fun i=>acc.getD i 0) 0)
theorem QuP (ops:Array Oper):Region.before ops=ops.toList.foldl QbU #[]:=by
 unfold Region.before
 rw [←Array.foldl_toList]
 congr 1
 funext acc o
 unfold QbU Qj1
 rw [Array.foldl_toList]
theorem Qty:∀(l:List Oper) (A:Array Nat),(l.foldl QbU A).size=A.size+l.length
 | [],A=>by simp
 |o::l,A=>by rw [List.foldl_cons,Qty l];simp [QbU];omega
theorem QnP:∀(l:List Oper) (A:Array Nat) (j:Nat),j<A.size→(l.foldl QbU A).getD j 0=A.getD j 0
 | [],A,j,_=>rfl
 |o::l,A,j,h=>by
  rw [List.foldl_cons,QnP l _ j (by simp [QbU];omega)]
  simp [QbU,Array.getElem?_push,Nat.ne_of_lt h]
theorem Qva:∀(l:List Oper) (A:Array Nat) (t i:Nat) (o:Oper),l[t]?=some o→((l.foldl QbU A).getD (A.size+t) 0).testBit i=true→
  ∃e∈o.after.toList,Region.binds .any e=true∧(e.on=i∨(e.on<A.size+t∧((l.foldl QbU A).getD e.on 0).testBit i=true))
 | [],A,t,i,o,h,_=>by simp at h
 |x::l,A,0,i,o,h,hb=>by
  simp only [List.getElem?_cons_zero,Option.some.injEq] at h
  subst h
  rw [List.foldl_cons,Nat.add_zero,QnP l _ _ (by simp [QbU])] at hb
  have e1:(QbU A x).getD A.size 0=x.after.toList.foldl (Qj1 fun i=>A.getD i 0) 0:=by simp [QbU]
  rw [e1] at hb
  rcases Qsj _ _ _ hb with hb|⟨e,h1,h2,h3⟩
  ·simp at hb
  ·refine ⟨e,h1,h2, ?_⟩
   rcases h3 with h3|h3
   ·exact .inl h3
   ·have hlt:e.on<A.size:=Decidable.byContradiction fun hn=>by
     have:A.getD e.on 0=0:=by rw [Array.getD_eq_getD_getElem?,Array.getElem?_eq_none (by omega)];rfl
     rw [this] at h3;simp at h3
    refine .inr ⟨by omega, ?_⟩
    rw [List.foldl_cons,QnP l _ _ (by simp [QbU];omega)]
    have:(QbU A x).getD e.on 0=A.getD e.on 0:=by
     have:=QnP [x] A e.on hlt
     simpa using this
    rw [this];exact h3
 |x::l,A,t+1,i,o,h,hb=>by
  simp only [List.foldl_cons] at hb⊢
  have hs:(QbU A x).size=A.size+1:=by simp [QbU]
  rw [show A.size+(t+1)=(QbU A x).size+t by omega] at hb⊢
  exact Qva l (QbU A x) t i o (by simpa using h) hb
def QkD (ops:Array Oper) (j i:Nat):Bool:=(nthD 0 (Region.before ops).toList j).testBit i
theorem QvX {j i:Nat} (h:QkD ops j i=true):∃o,ops[j]?=some o∧∃e∈o.after,Region.binds .any e=true∧(e.on=i∨(e.on<j∧QkD ops e.on i=true)):=by
 have key:∀j,nthD 0 (Region.before ops).toList j=(ops.toList.foldl QbU #[]).getD j 0:=fun j=>by
  rw [Qar,QuP,Array.getD_eq_getD_getElem?,Array.getElem?_toList]
 unfold QkD at*
 simp only [key] at*
 cases ho:ops[j]? with
 |none=>
  have:ops.size≤j:=by simpa using ho
  have e:(ops.toList.foldl QbU #[]).getD j 0=0:=by
   rw [Array.getD_eq_getD_getElem?,Array.getElem?_eq_none (by rw [Qty];simpa using this)];rfl
  rw [e] at h;simp at h
 |some o=>
  have:=Qva ops.toList #[] j i o (by simpa using ho) (by simpa using h)
  obtain ⟨e,h1,h2,h3⟩:=this
  exact ⟨o,rfl,e,by simpa using h1,h2,by simpa using h3⟩
def Qk1 (ops:Array Oper) (L:Array Bool):Prop:=∀j o,L.getD j false=true→ops[j]?=some o→∀e∈o.after,Region.binds .any e=true→L.getD e.on false=true
theorem Qev {L:Array Bool} (hc:Qk1 ops L):∀j i,(∀o,ops[j]?=some o→∀e∈o.after,Region.binds .any e=true→L.getD e.on false=true)→QkD ops j i=true→L.getD i false=true:=by
 intro j
 induction j using Nat.strongRecOn with
 |_ j ih=>
  intro i hj h
  obtain ⟨o,ho,e,he,hb,h⟩:=QvX h
  have h1:=hj o ho e he hb
  rcases h with h|⟨hlt,h⟩
  ·rw [←h];exact h1
  ·exact ih e.on hlt i (fun o' ho'=>hc e.on o' h1 ho') h
theorem QpJ {before:List Nat}:∀{ds:List Did} {n:Nat},Qgk before n ds=true→ds.length≤n→∀p q x y,p<q→ds.reverse[p]?=some y→ds.reverse[q]?=some x→
  (nthD 0 before (n-ds.length+q)).testBit (n-ds.length+p)=true∨x.conflict y=false
 | [],n,_,_,p,q,x,y,_,h,_=>by simp at h
 |z::r,n,h,hn,p,q,x,y,hpq,hy,hx=>by
  simp only [Qgk,Bool.and_eq_true,List.all_eq_true] at h
  obtain ⟨h1,h2⟩:=h
  simp only [List.length_cons] at hn
  rw [List.reverse_cons] at hx hy
  have hq:q<r.length+1:=by
   have:=(List.getElem?_eq_some_iff.1 hx).1
   simpa using this
  have hyr:r.reverse[p]?=some y:=by
   rw [List.getElem?_append_left (by simp;omega)] at hy;exact hy
  have en:n-(z::r).length=n-1-r.length:=by simp;omega
  rw [en]
  by_cases hlast:q=r.length
  ·subst hlast
   have hxz:x=z:=by
    rw [List.getElem?_append_right (by simp)] at hx
    simpa using hx.symm
   subst hxz
   have hyk:r[r.length-1-p]?=some y:=by
    rw [List.getElem?_reverse (by omega)] at hyr;exact hyr
   have:=h1 (y,r.length-1-p) (by rw [List.mem_zipIdx_iff_getElem?];exact hyk)
   simp only [Bool.or_eq_true,Bool.not_eq_true'] at this
   have e1:n-1-r.length+r.length=n-1:=by omega
   have e2:n-2-(r.length-1-p)=n-1-r.length+p:=by omega
   rw [e1,←e2]
   exact this
  ·have hxr:r.reverse[q]?=some x:=by
    rw [List.getElem?_append_left (by simp;omega)] at hx;exact hx
   exact QpJ h2 (by omega) p q x y hpq hyr hxr
theorem QeV {x y:Did} (h:x.conflict y=false):(∀v∈x.writes,∀l∈y.reads,l.hit v=false)∧(∀v∈y.writes,∀l∈x.reads,l.hit v=false)∧(∀v∈x.writes,∀u∈y.writes,u.clash v=false):=by
 unfold Did.conflict at h
 simp only [Bool.or_eq_false_iff,List.any_eq_false,Bool.or_eq_true,not_or,List.any_eq_true,not_exists,not_and,Bool.not_eq_true] at h
 exact ⟨fun v hv l hl=>(h.1 v hv).1 l hl,fun v hv l hl=>h.2 v hv l hl,fun v hv u hu=>(h.1 v hv).2 u hu⟩
def Steps (ZZ:List PanicEntry→Prop) (ρ:Option Nat) (ν:Nat) (P:Program) (B:Nat) (W0:Base) (d:Nat) (ops:Array Oper):St→Nat→List Did→St→Prop
 |σ,_, [],σ'=>σ'=σ
 |σ,i,D::E,σ'=>(∃o,ops[i]?=some o∧Qie ZZ ρ ν P B W0 d ops o σ D)∧Steps ZZ ρ ν P B W0 d ops (Qau σ D.writes) (i+1) E σ'
def QyC (ZZ:List PanicEntry→Prop) (ρ:Option Nat) (ν:Nat) (P:Program) (B:Nat) (W0:Base) (d:Nat) (ops:Array Oper) (rest:St→Prop) (σ:St) (o:Oper):Prop:=
 ∀a w G,Sim P B W0 d σ a w G→∀(K:Act→World→Prop) (Q:Exit→Act→World→Prop),PanQ ZZ B d w G Q→
  (∀a' w' G' σ',Sim P B W0 d σ' a' w' G'→Keeps B d w w' G G'→rest σ'→K a' w')→wpO ρ ν P ops Q o K a w
def DSteps (ZZ:List PanicEntry→Prop) (ρ:Option Nat) (ν:Nat) (P:Program) (B:Nat) (W0:Base) (d:Nat) (ops:Array Oper):St→List (Nat×Did)→Prop
 |_, []=>True
 |σ,x::r=>(∃o,ops[x.1]?=some o∧Qie ZZ ρ ν P B W0 d ops o σ x.2)∧DSteps ZZ ρ ν P B W0 d ops (Qau σ x.2.writes) r
theorem Qm7 {before:List Nat} {i:Nat}:∀(l:List Oper) (j:Nat),(∀q∈Qde before i j l,i<q.1∧j≤q.1∧l[q.1-j]?=some q.2)∧
  (∀t o,l[t]?=some o→i<j+t→(nthD 0 before (j+t)).testBit i=true∨(j+t,o)∈Qde before i j l)∧(Qde before i j l).Pairwise (fun x y=>x.1<y.1)
 | [],j=>⟨fun q h=>by simp [Qde] at h,fun t o h=>by simp at h,by simp [Qde]⟩
 |o::r,j=>by
  obtain ⟨h1,h2,h3⟩:=Qm7 (before:=before) (i:=i) r (j+1)
  have e1:∀q∈Qde before i (j+1) r,i<q.1∧j≤q.1∧(o::r)[q.1-j]?=some q.2:=fun q hq=>by
   obtain ⟨a,b,c⟩:=h1 q hq
   refine ⟨a,by omega, ?_⟩
   rw [show q.1-j=(q.1-(j+1))+1 by omega,List.getElem?_cons_succ]
   exact c
  have e2:∀t x,r[t]?=some x→i<j+(t+1)→(nthD 0 before (j+(t+1))).testBit i=true∨(j+(t+1),x)∈Qde before i (j+1) r:=fun t x hx hlt=>by
   have:=h2 t x hx (by omega)
   rw [show j+(t+1)=j+1+t by omega];exact this
  unfold Qde
  cases hc:decide (i<j)&& !((nthD 0 before j).testBit i) with
  |true=>
   simp only
   rw [Bool.and_eq_true,decide_eq_true_eq] at hc
   refine ⟨fun q hq=> ?_,fun t x hx hlt=> ?_, ?_⟩
   ·rcases List.mem_cons.1 hq with rfl|hq
    ·exact ⟨hc.1,Nat.le_refl _,by simp⟩
    ·exact e1 q hq
   ·cases t with
    |zero=>simp only [List.getElem?_cons_zero,Option.some.injEq] at hx;subst hx;exact .inr (by simp)
    |succ t=>exact (e2 t x (by simpa using hx) hlt).imp id fun h=>List.mem_cons_of_mem _ h
   ·refine List.pairwise_cons.2 ⟨fun q hq=> ?_,h3⟩
    have:=(h1 q hq).2.1
    show j<q.1
    omega
  |false=>
   simp only
   refine ⟨e1,fun t x hx hlt=> ?_,h3⟩
   cases t with
   |zero=>
    simp only [Nat.add_zero] at hlt⊢
    rw [decide_eq_true hlt] at hc
    exact .inl (by simpa using hc)
   |succ t=>exact e2 t x (by simpa using hx) hlt
theorem QoJ (SE:Qa5 P) (CO:CallOK P B W0 call):∀(l:List (Nat×Oper)) {σ:St} {acc:List (Nat×Did)} {k:List (Nat×Did)→Option β},(∀q∈l,ops[q.1]?=some q.2)→Qid P call d ops.toList l σ acc k=some r→
  ∃X,k (X.reverse++acc)=some r∧X.map (·.1)=l.map (·.1)∧DSteps ZZ ρ ν P B W0 d ops σ X
 | [],σ,acc,k,_,h=>⟨[],h,rfl,trivial⟩
 |q::l,σ,acc,k,hl,h=>by
  have h:chkO (q.2.guard.isNone&&(Qa2 σ q.2).isNone) ((opM P d ops.toList q.2).exec call σ (Qdb q.2++Qbg ops.toList q.2) fun w rs=>Qid P call d ops.toList l (Qau σ w) ((q.1,⟨rs,w⟩)::acc) k)=some r:=h
  obtain ⟨h0,h⟩:=Qaf h
  rw [Bool.and_eq_true] at h0
  have hg:q.2.guard=none:=by simpa using h0.1
  obtain ⟨D,h1,h2⟩:=Qr9 (ZZ:=ZZ) (ρ:=ρ) (ν:=ν) (did:=fun x σ'=>Qid P call d ops.toList l σ' ((q.1,x)::acc) k) SE CO h fun σ' _ _ a w G _=>Qf4 hg
  obtain ⟨X,h3,h4,h5⟩:=QoJ SE CO l (fun x hx=>hl x (by simp [hx])) h1
  exact ⟨(q.1,D)::X,by simpa using h3,by simp [h4],⟨q.2,hl q (by simp),h2⟩,h5⟩
theorem Qub {before:List Nat} {i:Nat} {ds:List Did} {x:Option β} (h:QgJ P call d before ops.toList o i ds σ x=some r):x=some r∧
  ∀f vs,σ.K.pan.isSome=true→Qa2 σ o=some (f,vs)→Qid P call d ops.toList (Qde before i 0 ops.toList) σ [] (fun E=>chkO (Qk3 before (E++(i,QfB ops.toList o σ vs)::Qez i ds)) x)=some r:=by
 unfold QgJ at h
 cases hp:σ.K.pan with
 |none=>simp only [hp] at h;exact ⟨h,fun f vs q=>by cases q⟩
 |some t=>
  simp only [hp] at h
  cases hi:Qa2 σ o with
  |none=>simp only [hi] at h;exact ⟨h,fun f vs _ q=>by cases q⟩
  |some fv=>
   obtain ⟨f,vs⟩:=fv
   simp only [hi] at h
   obtain ⟨h0,h⟩:=Qaf h
   refine ⟨?_,fun f' vs' _ q=> ?_⟩
   ·obtain ⟨E,h1,_⟩:=QnA _ h
    exact (Qaf h1).2
   ·simp only [Option.some.injEq,Prod.mk.injEq] at q
    obtain ⟨rfl,rfl⟩:=q
    exact h
def Qw3 (ZZ:List PanicEntry→Prop) (ρ:Option Nat) (ν:Nat) (P:Program) (B:Nat) (W0:Base) (d:Nat) (ops:Array Oper) (m:Nat) (σ:St) (ds:List Did):Prop:=
 ∃o vs X,ops[m]?=some o∧Dies ZZ ρ ν P B W0 d ops o σ (QfB ops.toList o σ vs).reads∧DSteps ZZ ρ ν P B W0 d ops σ X∧
  X.map (·.1)=(Qde (Region.before ops).toList m 0 ops.toList).map (·.1)∧Qk3 (Region.before ops).toList (X.reverse++(m,QfB ops.toList o σ vs)::Qez m ds)=true
theorem W.apply_K (x:W) (σ:St):(x.apply σ).K=σ.K:=by cases x<;>rfl
theorem QtW:∀(ws:List W) (σ:St),(Qau σ ws).K=σ.K
 | [],_=>rfl
 |x::ws,σ=>(QtW ws _).trans (W.apply_K x σ)
noncomputable abbrev Qkh (P:Program) (call:FuncId→List CV→Option CV) (inl:FuncId→List AV→MemT→(AV→MemT→Option β)→Option β) (d:Nat) (ops:Array Oper) (i:Nat) (ds:List Did) (k:St→Option β) (σ:St):Option β:=
 QcX P call inl d (Region.before ops).toList ops.toList (ops.toList.drop i) i ds k σ
theorem Qjp (SE:Qa5 P) (CO:CallOK P B W0 call) (Iok:InlOK Z P B W0 inl) {k:St→Option β}:∀(l:List Oper) (i:Nat),i≤ops.size→ops.toList.drop i=l→∀(ds:List Did) (σ:St),σ.K=W0.K→Qkh P call inl d ops i ds k σ=some r→
  ∃E σ',Steps (Z r) ρ ν P B W0 d ops σ i E σ'∧
   ((i+E.length=ops.size∧Qgk (Region.before ops).toList ops.size (E.reverse++ds)=true∧k σ'=some r)∨
    (i+E.length<ops.size∧Qgk (Region.before ops).toList (i+E.length) (E.reverse++ds)=true∧QhN (Region.before ops).toList (i+E.length) ops.size=true∧
     ∃o,ops[i+E.length]?=some o∧QyC (Z r) ρ ν P B W0 d ops (fun σ''=>Qkh P call inl d ops (i+E.length+1) [] k σ''=some r) σ' o)∨
    (i+E.length<ops.size∧Qw3 (Z r) ρ ν P B W0 d ops (i+E.length) σ' (E.reverse++ds)))
 | [],i,hi,hl,ds,σ,hK,h=>by
  have hn:ops.size=i:=by
   have:ops.size≤i:=by simpa using hl
   omega
  unfold Qkh at h
  rw [hl] at h
  change Qve (Region.before ops).toList ops.toList.length ds k σ=some r at h
  obtain ⟨h1,h2⟩:=Qaf h
  exact ⟨[],σ,rfl, .inl ⟨by simp [hn],by simpa using h1,h2⟩⟩
 |o::l,i,hi,hl,ds,σ,hK,h=>by
  have hlt:i<ops.size:=Decidable.byContradiction fun hn=>by
   rw [List.drop_eq_nil_of_le (by simp;omega)] at hl;cases hl
  have ho:ops[i]?=some o:=by
   have:(ops.toList.drop i)[0]?=some o:=by rw [hl];rfl
   simpa using this
  have hl':ops.toList.drop (i+1)=l:=by
   have:(ops.toList.drop i).drop 1=l:=by rw [hl];rfl
   simpa [List.drop_drop,Nat.add_comm] using this
  unfold Qkh at h
  rw [hl] at h
  change QgJ P call d (Region.before ops).toList ops.toList o i ds σ (Qdi P call inl d σ ops.toList o (QhN (Region.before ops).toList i ops.toList.length&&Qgk (Region.before ops).toList i ds) (QrF (QcX P call inl d (Region.before ops).toList ops.toList l) i ds k)
   (QcX P call inl d (Region.before ops).toList ops.toList l (i+1) [] k))=some r at h
  obtain ⟨h,hdead⟩:=Qub h
  rcases QqC SE CO Iok h with ⟨D,h,hm⟩|⟨hp,hm⟩|⟨_,hpn,f,vs,hi',hdie⟩
  ·have h:Qkh P call inl d ops (i+1) (D::ds) k (Qau σ D.writes)=some r:=by unfold Qkh;rw [hl'];exact h
   obtain ⟨E,σ',h1,h2⟩:=Qjp SE CO Iok l (i+1) (by omega) hl' (D::ds) _ ((QtW _ _).trans hK) h
   refine ⟨D::E,σ',⟨⟨o,ho,hm⟩,h1⟩, ?_⟩
   have e:i+(D::E).length=i+1+E.length:=by simp;omega
   have e2:(D::E).reverse++ds=E.reverse++(D::ds):=by simp
   rw [e,e2]
   exact h2
  ·rw [Bool.and_eq_true] at hp
   refine ⟨[],σ,rfl, .inr (.inl ⟨by simpa using hlt,by simpa using hp.2,by simpa using hp.1,o,by simpa using ho, ?_⟩)⟩
   intro a w G S K Q hP hK
   refine hm a w G S K Q hP fun a' w' G' σ' S' K' h=>hK a' w' G' σ' S' K' ?_
   unfold Qkh
   simp only [List.length_nil,Nat.add_zero]
   rw [hl'];exact h
  ·obtain ⟨X,h3,h4,h5⟩:=QoJ (ZZ:=Z r) (ρ:=ρ) (ν:=ν) SE CO _ (fun q hq=>by
    have:=(Qm7 (before:=(Region.before ops).toList) (i:=i) ops.toList 0).1 q hq
    simpa using this.2.2) (hdead f vs (by rw [hK];exact hpn) hi')
   rw [List.append_nil] at h3
   refine ⟨[],σ,rfl, .inr (.inr ⟨by simpa using hlt,o,vs,X,by simpa using ho,hdie,h5,by simpa using h4, ?_⟩)⟩
   simpa using (Qaf h3).1
end Go.Am
namespace Go.Am
open Go.RowKit
variable {P:Program} {B:Nat} {W0:Base} {d:Nat} {σ:St} {a:Act} {w:World} {G:Gh} {β:Type} {call:FuncId→List CV→Option CV}
 {inl:FuncId→List AV→MemT→(AV→MemT→Option β)→Option β} {acc:List Loc} {r:β} {o:Oper} {ops:Array Oper} {ρ:Option Nat} {ν:Nat} {ZZ:List PanicEntry→Prop} {Z:β→List PanicEntry→Prop}
def part (L:Nat→Bool):St→Nat→List Did→St
 |σ,_, []=>σ
 |σ,i,D::E=>part L (if L i then Qau σ D.writes else σ) (i+1) E
theorem QgW (L:Nat→Bool):∀(E:List Did) (σ:St) (i:Nat),Shape σ (part L σ i E)
 | [],σ,_=>Shape.refl σ
 |D::E,σ,i=>by
  simp only [part]
  refine Shape.trans ?_ (QgW L E _ _)
  split
  ·exact Qj7 _ _
  ·exact Shape.refl σ
theorem Qhj {L L':Nat→Bool}:∀(E:List Did) (σ:St) (i:Nat),(∀q,q<E.length→L (i+q)=L' (i+q))→part L σ i E=part L' σ i E
 | [],_,_,_=>rfl
 |D::E,σ,i,h=>by
  simp only [part]
  have h0:=h 0 (by simp)
  simp only [Nat.add_zero] at h0
  rw [h0]
  exact Qhj E _ _ fun q hq=>by
   have:=h (q+1) (by simpa using hq)
   rw [show i+1+q=i+(q+1) by omega];exact this
theorem Qka {L:Nat→Bool}:∀(E:List Did) (σ:St) (i:Nat),(∀q,q<E.length→L (i+q)=false)→part L σ i E=σ
 | [],_,_,_=>rfl
 |D::E,σ,i,h=>by
  simp only [part]
  have h0:=h 0 (by simp)
  simp only [Nat.add_zero] at h0
  rw [h0]
  exact Qka E _ _ fun q hq=>by
   have:=h (q+1) (by simpa using hq)
   rw [show i+1+q=i+(q+1) by omega];exact this
theorem QrU {L:Nat→Bool} {l:Loc}:∀(E:List Did) (σ:St) (i:Nat),(∀q D,E[q]?=some D→L (i+q)=true→∀v∈D.writes,l.hit v=false)→Loc.same σ (part L σ i E) l
 | [],σ,_,_=>Loc.same.refl σ l
 |D::E,σ,i,h=>by
  simp only [part]
  have ht:∀σ,Loc.same σ (part L σ (i+1) E) l:=fun σ=>QrU E σ (i+1) fun q D' hq hl=>h (q+1) D' (by simpa using hq) (by rw [show i+(q+1)=i+1+q by omega];exact hl)
  by_cases hl:L i=true
  ·rw [if_pos hl]
   exact (QkW D.writes σ (h 0 D (by simp) (by simpa using hl))).trans (ht _)
  ·rw [if_neg hl];exact ht σ
theorem Qkk {L:Nat→Bool} {l:Loc}:∀(E:List Did) (p i:Nat) (σ σ':St),Shape σ σ'→Loc.same σ σ' l→L (i+p)=false→
  (∀q D,E[q]?=some D→(q<p∧L (i+q)=false)∨(p<q∧L (i+q)=true)→∀v∈D.writes,l.hit v=false)→Loc.same (part (fun _=>true) σ i (E.take p)) (part L σ' i E) l
 | [],p,i,σ,σ',_,h,_,_=>by simpa [part] using h
 |D::E,0,i,σ,σ',_,h,hp,hh=>by
  simp only [List.take_zero,part]
  rw [Nat.add_zero] at hp
  rw [if_neg (by rw [hp];simp)]
  exact h.trans (QrU E σ' (i+1) fun q D' hq hl=>hh (q+1) D' (by simpa using hq) (.inr ⟨by omega,by rw [show i+(q+1)=i+1+q by omega];exact hl⟩))
 |D::E,p+1,i,σ,σ',hs,h,hp,hh=>by
  simp only [List.take_succ_cons,part,if_true]
  have hp':L (i+1+p)=false:=by rw [show i+1+p=i+(p+1) by omega];exact hp
  have hh':∀q D,E[q]?=some D→(q<p∧L (i+1+q)=false)∨(p<q∧L (i+1+q)=true)→∀v∈D.writes,l.hit v=false:=fun q D' hq hor=>by
   refine hh (q+1) D' (by simpa using hq) ?_
   rw [show i+(q+1)=i+1+q by omega]
   rcases hor with ⟨h1,h2⟩|⟨h1,h2⟩
   ·exact .inl ⟨by omega,h2⟩
   ·exact .inr ⟨by omega,h2⟩
  by_cases hl:L i=true
  ·rw [if_pos hl]
   obtain ⟨h1,h2⟩:=QoM D.writes hs h
   exact Qkk E p (i+1) _ _ h2 h1 hp' hh'
  ·rw [if_neg hl]
   refine Qkk E p (i+1) _ _ ((Qj7 D.writes σ).symm.trans hs) ?_ hp' hh'
   exact (QkW D.writes σ (hh 0 D (by simp) (.inl ⟨by omega,by simpa using hl⟩))).symm.trans h
theorem QrP {L:Nat→Bool} {ws:List W}:∀(E:List Did) (σ:St) (i:Nat),(∀q D,E[q]?=some D→L (i+q)=true→∀u∈ws,∀v∈D.writes,u.clash v=false)→part L (Qau σ ws) i E=Qau (part L σ i E) ws
 | [],_,_,_=>rfl
 |D::E,σ,i,h=>by
  simp only [part]
  have ht:∀σ,part L (Qau σ ws) (i+1) E=Qau (part L σ (i+1) E) ws:=fun σ=>QrP E σ (i+1) fun q D' hq hl=>h (q+1) D' (by simpa using hq) (by rw [show i+(q+1)=i+1+q by omega];exact hl)
  by_cases hl:L i=true
  ·rw [if_pos hl,if_pos hl,QoB ws D.writes σ (h 0 D (by simp) (by simpa using hl))]
   exact ht _
  ·rw [if_neg hl,if_neg hl];exact ht σ
theorem Qpl {L L':Nat→Bool} {D:Did}:∀(E:List Did) (p i:Nat) (σ:St),E[p]?=some D→L (i+p)=false→(∀j,L' j=if j=i+p then true else L j)→
  (∀q D',E[q]?=some D'→p<q→L (i+q)=true→∀u∈D.writes,∀v∈D'.writes,u.clash v=false)→part L' σ i E=Qau (part L σ i E) D.writes
 | [],p,i,σ,h,_,_,_=>by simp at h
 |D0::E,0,i,σ,h,hp,hL,hc=>by
  simp only [List.getElem?_cons_zero,Option.some.injEq] at h
  subst h
  simp only [part]
  rw [Nat.add_zero] at hp
  rw [if_neg (show ¬L i=true by rw [hp];simp),if_pos (by rw [hL i];simp)]
  rw [Qhj (L:=L') (L':=L) E _ (i+1) fun q _=>by rw [hL];rw [if_neg (by omega)]]
  exact QrP E σ (i+1) fun q D' hq hl=>hc (q+1) D' (by simpa using hq) (by omega) (by rw [show i+(q+1)=i+1+q by omega];exact hl)
 |D0::E,p+1,i,σ,h,hp,hL,hc=>by
  simp only [part]
  have e:L' i=L i:=by rw [hL,if_neg (by omega)]
  rw [e]
  refine Qpl E p (i+1) _ (by simpa using h) (by rw [show i+1+p=i+(p+1) by omega];exact hp) (fun j=>by rw [hL,show i+1+p=i+(p+1) by omega]) fun q D' hq hpq hl=> ?_
  exact hc (q+1) D' (by simpa using hq) (by omega) (by rw [show i+(q+1)=i+1+q by omega];exact hl)
theorem Steps.get:∀{E:List Did} {σ σ':St} {i:Nat},Steps ZZ ρ ν P B W0 d ops σ i E σ'→σ'=part (fun _=>true) σ i E∧
  ∀p D,E[p]?=some D→∃o,ops[i+p]?=some o∧Qie ZZ ρ ν P B W0 d ops o (part (fun _=>true) σ i (E.take p)) D
 | [],σ,σ',i,h=>⟨h,fun p D hp=>by simp at hp⟩
 |D0::E,σ,σ',i,h=>by
  obtain ⟨⟨o,ho,hm⟩,h⟩:=h
  obtain ⟨h1,h2⟩:=Steps.get h
  refine ⟨by simpa [part] using h1,fun p D hp=> ?_⟩
  cases p with
  |zero=>simp at hp;subst hp;exact ⟨o,by simpa using ho,by simpa [part] using hm⟩
  |succ p=>
   obtain ⟨o',q1,q2⟩:=h2 p D (by simpa using hp)
   exact ⟨o',by rw [show i+(p+1)=i+1+p by omega];exact q1,by simpa [part] using q2⟩
def unl (f:Nat→Bool):Nat→Nat
 |0=>0
 |n+1=>(if f n then 0 else 1)+unl f n
theorem Qpf {f:Nat→Bool}:∀{n:Nat},unl f n=0→∀j,j<n→f j=true
 |0,_,j,h=>by omega
 |n+1,h,j,hj=>by
  simp only [unl] at h
  by_cases e:j=n
  ·subst e
   cases hf:f j with
   |true=>rfl
   |false=>rw [hf] at h;simp at h
  ·exact Qpf (n:=n) (by omega) j (by omega)
theorem Qtr {f f':Nat→Bool}:∀{n:Nat},(∀j,j<n→f' j=f j)→unl f' n=unl f n
 |0,_=>rfl
 |n+1,h=>by simp only [unl];rw [h n (by omega),Qtr fun j hj=>h j (by omega)]
theorem Qpj {f f':Nat→Bool} {i:Nat} (hi:f i=false) (h:∀j,f' j=if j=i then true else f j):∀{n:Nat},i<n→unl f' n+1=unl f n
 |0,hn=>by omega
 |n+1,hn=>by
  simp only [unl]
  by_cases e:i=n
  ·subst e
   rw [h i,if_pos rfl,hi,Qtr (f:=f) (f':=f') fun j hj=>by rw [h,if_neg (by omega)]]
   simp;omega
  ·have e1:f' n=f n:=by rw [h n,if_neg (Ne.symm e)]
   have:=Qpj hi h (n:=n) (by omega)
   rw [e1]
   omega
theorem Qll:∀(l:List Oper) (i:Nat),QcN i l=true→∀j o,l[j]?=some o→∀e∈o.after,Region.binds .any e=true→e.on<i+j
 | [],_,_,j,o,h,_,_,_=>by simp at h
 |x::l,i,h,0,o,ho,e,he,hb=>by
  simp only [QcN,Bool.and_eq_true,List.all_eq_true,Bool.or_eq_true,decide_eq_true_eq] at h
  simp at ho;subst ho
  rcases h.1 e (by simpa using he) with q|q
  ·exact q
  ·rw [hb] at q;cases q
 |x::l,i,h,j+1,o,ho,e,he,hb=>by
  simp only [QcN,Bool.and_eq_true] at h
  have:=Qll l (i+1) h.2 j o (by simpa using ho) e he hb
  omega
theorem Qjc {L:Array Bool} (hs:L.size=ops.size) {j:Nat}:j∈Region.ready .any ops L↔j<ops.size∧L.getD j false=false∧∀o,ops[j]?=some o→∀e∈o.after,Region.binds .any e=true→L.getD e.on false=true:=by
 rw [mem_ready]
 constructor
 ·rintro ⟨h0,o,ho,h⟩
  have hlt:j<ops.size:=(Array.getElem?_eq_some_iff.1 ho).1
  refine ⟨hlt, ?_,fun o' ho'=> ?_⟩
  ·have:j<L.size:=by omega
   simp [this] at h0⊢;exact h0
  ·rw [ho] at ho';cases ho';exact h
 ·rintro ⟨hlt,h0,h⟩
  have:j<L.size:=by omega
  refine ⟨by simp [this] at h0⊢;exact h0,ops[j],by simp [hlt],h _ (by simp [hlt])⟩
theorem QoZ {L:Array Bool} (hs:L.size=ops.size) (he:QcN 0 ops.toList=true):∀m,m≤ops.size→(∀j,j<m→L.getD j false=true)∨∃i,i∈Region.ready .any ops L
 |0,_=> .inl fun j hj=>by omega
 |m+1,hm=>by
  rcases QoZ hs he m (by omega) with h|h
  ·cases hL:L.getD m false with
   |true=>
    refine .inl fun j hj=> ?_
    by_cases e:j=m
    ·rw [e];exact hL
    ·exact h j (by omega)
   |false=>
    refine .inr ⟨m,(Qjc hs).2 ⟨by omega,hL,fun o ho e hee hbb=> ?_⟩⟩
    have:=Qll ops.toList 0 he m o (by simpa using ho) e hee hbb
    exact h e.on (by omega)
  ·exact .inr h
theorem QsZ {m n:Nat} (h:QhN (Region.before ops).toList m n=true):(∀j,j<m→QkD ops m j=true)∧∀i,m<i→i<n→QkD ops i m=true:=by
 simp only [QhN,Bool.and_eq_true,List.all_eq_true,List.mem_range] at h
 refine ⟨fun j hj=>h.1 j hj,fun i h1 h2=> ?_⟩
 have:=h.2 (i-m-1) (by omega)
 rw [show m+1+(i-m-1)=i by omega] at this
 exact this
theorem Qt8 {L:Array Bool} {i:Nat} (hi:i<L.size) (j:Nat):(L.setIfInBounds i true).getD j false=if j=i then true else L.getD j false:=by
 by_cases e:j=i
 ·subst e;simp [hi]
 ·rw [if_neg e];exact getD_set_ne false (Ne.symm e)
theorem Qi2 {i:Nat} (hi:ops[i]?=some o) {K:Act→World→Prop} {Q:Exit→Act→World→Prop} (h:wpO ρ ν P ops Q o K a w):wpOpIn (FR ρ) ν P ops Q i K a w:=by
 unfold wpOpIn
 simp only [hi]
 unfold wpO at h
 split
 ·rename_i hw;rw [if_pos hw] at h;exact h
 ·rename_i hw;rw [if_neg hw] at h;exact ⟨fun _ _=>trivial,h⟩
theorem Qr7 {L:Nat→Bool} (hL:∀i,L i=true):∀(E:List Did) (σ:St) (i j:Nat),part L σ i E=part (fun _=>true) σ j E
 | [],_,_,_=>rfl
 |D::E,σ,i,j=>by
  simp only [part,hL,if_true]
  exact Qr7 hL E _ _ _
def aft (σ:St) (l:List (Nat×Did)):St:=part (fun _=>true) σ 0 (l.map (·.2))
theorem Qo2 (σ:St) (x:Nat×Did) (l:List (Nat×Did)):aft σ (x::l)=aft (Qau σ x.2.writes) l:=by
 unfold aft
 simp only [List.map_cons,part,if_true]
 exact Qr7 (fun _=>rfl) _ _ _ _
theorem DSteps.append:∀{a b:List (Nat×Did)} {σ:St},DSteps ZZ ρ ν P B W0 d ops σ a→DSteps ZZ ρ ν P B W0 d ops (aft σ a) b→DSteps ZZ ρ ν P B W0 d ops σ (a++b)
 | [],_,_,_,h=>h
 |x::a,b,σ,h1,h2=>⟨h1.1,DSteps.append h1.2 (by rw [Qo2] at h2;exact h2)⟩
theorem DSteps.get:∀{l:List (Nat×Did)} {σ:St},DSteps ZZ ρ ν P B W0 d ops σ l→∀p x,l[p]?=some x→∃o,ops[x.1]?=some o∧Qie ZZ ρ ν P B W0 d ops o (aft σ (l.take p)) x.2
 | [],_,_,p,x,h=>by simp at h
 |y::l,σ,h,0,x,hx=>by
  simp only [List.getElem?_cons_zero,Option.some.injEq] at hx
  subst hx
  exact h.1
 |y::l,σ,h,p+1,x,hx=>by
  obtain ⟨o,h1,h2⟩:=DSteps.get h.2 p x (by simpa using hx)
  exact ⟨o,h1,by rw [List.take_succ_cons,Qo2];exact h2⟩
def QcQ:Nat→List Did→List (Nat×Did)
 |_, []=> []
 |s,D::E=>(s,D)::QcQ (s+1) E
theorem Qfn:∀(E:List Did) (s:Nat),(QcQ s E).length=E.length
 | [],_=>rfl
 |D::E,s=>by simp [QcQ,Qfn E]
theorem QgL:∀(E:List Did) (s p:Nat) (x:Nat×Did),(QcQ s E)[p]?=some x→x.1=s+p∧E[p]?=some x.2
 | [],s,p,x,h=>by simp [QcQ] at h
 |D::E,s,0,x,h=>by
  simp only [QcQ,List.getElem?_cons_zero,Option.some.injEq] at h
  subst h
  exact ⟨rfl,rfl⟩
 |D::E,s,p+1,x,h=>by
  obtain ⟨h1,h2⟩:=QgL E (s+1) p x (by simpa [QcQ] using h)
  exact ⟨by omega,by simpa using h2⟩
theorem Qkx:∀(A B:List Did) (i:Nat),Qez i (A++B)=Qez i A++Qez (i-A.length) B
 | [],_,_=>rfl
 |x::A,B,i=>by
  simp only [List.cons_append,Qez,List.length_cons]
  rw [Qkx A B,show i-1-A.length=i-(A.length+1) by omega]
theorem Qos:∀(E:List Did) (s:Nat),Qez (s+E.length) E.reverse=(QcQ s E).reverse
 | [],_=>rfl
 |D::E,s=>by
  rw [List.reverse_cons,Qkx,QcQ,List.reverse_cons,List.length_cons,show s+(E.length+1)=s+1+E.length by omega,Qos E (s+1),List.length_reverse,show s+1+E.length-E.length=s+1 by omega]
  rfl
theorem QnL:∀{E:List Did} {σ σ':St} {s:Nat},Steps ZZ ρ ν P B W0 d ops σ s E σ'→DSteps ZZ ρ ν P B W0 d ops σ (QcQ s E)∧σ'=aft σ (QcQ s E)
 | [],σ,σ',s,h=>⟨trivial,h⟩
 |D::E,σ,σ',s,h=>by
  obtain ⟨h1,h2⟩:=QnL h.2
  exact ⟨⟨h.1,h1⟩,by rw [QcQ,Qo2];exact h2⟩
theorem QoR {before:List Nat}:∀{l:List (Nat×Did)},Qk3 before l=true→l.Pairwise fun x y=>(nthD 0 before x.1).testBit y.1=true∨x.2.conflict y.2=false
 | [],_=> .nil
 |x::l,h=>by
  simp only [Qk3,Bool.and_eq_true,List.all_eq_true,Bool.or_eq_true,Bool.not_eq_true'] at h
  exact .cons h.1 (QoR h.2)
def posL (FL:List (Nat×Did)) (L:Array Bool) (p:Nat):Bool:=match FL[p]? with|some x=>L.getD x.1 false|none=>false
theorem Qip {FL:List (Nat×Did)} {L:Array Bool} {p:Nat} {x:Nat×Did} (h:FL[p]?=some x):posL FL L p=L.getD x.1 false:=by unfold posL;rw [h]
theorem QwE {Q:Exit→Act→World→Prop} (he:QcN 0 ops.toList=true) {m:Nat} (ho:ops[m]?=some o) {σ:St} {FL:List (Nat×Did)} {pm:Nat} {xm:Did} (hpm:FL[pm]?=some (m,xm))
  (hdie:Dies ZZ ρ ν P B W0 d ops o (aft σ (FL.take pm)) xm.reads) (hM:DSteps ZZ ρ ν P B W0 d ops σ FL)
  (hag:∀(p q:Nat) (x y:Nat×Did),p<q→FL[p]?=some y→FL[q]?=some x→QkD ops x.1 y.1=true∨x.2.conflict y.2=false)
  (hnd:∀(p q:Nat) (x y:Nat×Did),FL[p]?=some x→FL[q]?=some y→x.1=y.1→p=q) {s:Nat}
  (hcov:∀j,j<ops.size→j<s∨(∃(p:Nat) (x:Nat×Did),FL[p]?=some x∧x.1=j)∨QkD ops j m=true):
  ∀(fuel:Nat) (L:Array Bool) (a:Act) (w:World) (G:Gh),L.size=ops.size→(∀j,j<s→L.getD j false=true)→L.getD m false=false→Qk1 ops L→unl (fun j=>L.getD j false) ops.size≤fuel→
   Sim P B W0 d (part (posL FL L) σ 0 (FL.map (·.2))) a w G→PanQ ZZ B d w G Q→wpAnyIn (FR ρ) ν P .any ops Q fuel L a w:=by
 have hmlt:m<ops.size:=(Array.getElem?_eq_some_iff.1 ho).1
 have hget:∀{p:Nat} {x:Nat×Did},FL[p]?=some x→(FL.map (·.2))[p]?=some x.2:=fun h=>by rw [List.getElem?_map,h];rfl
 have hget2:∀{p:Nat} {D:Did},(FL.map (·.2))[p]?=some D→∃x,FL[p]?=some x∧x.2=D:=fun {p D} h=>by
  rw [List.getElem?_map] at h
  obtain ⟨x,h1,h2⟩:=Option.map_eq_some_iff.1 h
  exact ⟨x,h1,h2⟩
 intro fuel
 induction fuel with
 |zero=>
  intro L a w G hsz hlo hm hcl hun S hP
  have:=Qpf (Nat.le_zero.1 hun) m hmlt
  rw [hm] at this;cases this
 |succ fuel ih=>
  intro L a w G hsz hlo hm hcl hun S hP
  refine ⟨fun hnil=> ?_,fun i hi=> ?_⟩
  ·rcases QoZ hsz he ops.size (Nat.le_refl _) with h|⟨i,hi⟩
   ·have:=h m hmlt
    rw [hm] at this;cases this
   ·rw [hnil] at hi;cases hi
  ·obtain ⟨hin,hil,hie⟩:=(Qjc hsz).1 hi
   have hisz:i<L.size:=by omega
   have hset:=fun j=>Qt8 hisz j
   have before_p:∀(p:Nat) (x:Nat×Did) (q:Nat) (y:Nat×Did),FL[p]?=some x→(∀o:Oper,ops[x.1]?=some o→∀e∈o.after,Region.binds .any e=true→L.getD e.on false=true)→FL[q]?=some y→q<p→L.getD y.1 false=false→x.2.conflict y.2=false:=fun p x q y hx hxe hy hqp hL=>by
    rcases hag q p x y hqp hy hx with h|h
    ·have:=Qev hcl x.1 y.1 hxe h
     rw [hL] at this;cases this
    ·exact h
   have after_p:∀(p:Nat) (x:Nat×Did) (q:Nat) (y:Nat×Did),FL[p]?=some x→L.getD x.1 false=false→FL[q]?=some y→p<q→L.getD y.1 false=true→y.2.conflict x.2=false:=fun p x q y hx hxl hy hpq hL=>by
    rcases hag p q y x hpq hx hy with h|h
    ·have:=Qev hcl y.1 x.1 (fun o ho=>hcl _ o hL ho) h
     rw [hxl] at this;cases this
    ·exact h
   have reads:∀(p:Nat) (x:Nat×Did),FL[p]?=some x→x.1=i→∀l∈x.2.reads,Loc.same (aft σ (FL.take p)) (part (posL FL L) σ 0 (FL.map (·.2))) l:=fun p x hx hxi l hl=>by
    have:=Qkk (L:=posL FL L) (l:=l) (FL.map (·.2)) p 0 σ σ (Shape.refl σ) (Loc.same.refl σ l) (by rw [Nat.zero_add,Qip hx,hxi];exact hil) fun q D' hq hor v hv=>by
     obtain ⟨y,hy,rfl⟩:=hget2 hq
     rw [Nat.zero_add,Qip hy] at hor
     rcases hor with ⟨q1,q2⟩|⟨q1,q2⟩
     ·exact (QeV (before_p p x q y hx (by rw [hxi];exact hie) hy q1 q2)).2.1 v hv l hl
     ·exact (QeV (after_p p x q y hx (by rw [hxi];exact hil) hy q1 q2)).1 v hv l hl
    rw [←List.map_take] at this
    exact this
   have shape:∀p,Shape (aft σ (FL.take p)) (part (posL FL L) σ 0 (FL.map (·.2))):=fun p=>(QgW _ _ _ _).symm.trans (QgW _ _ _ _)
   by_cases him:i=m
   ·subst him
    exact Qi2 ho (hdie _ (shape pm) (reads pm _ hpm rfl) a w G S _ Q hP)
   ·have hpx:∃(p:Nat) (x:Nat×Did),FL[p]?=some x∧x.1=i:=by
     rcases hcov i hin with h|h|h
     ·rw [hlo i h] at hil;cases hil
     ·exact h
     ·have:=Qev hcl i m hie h
      rw [hm] at this;cases this
    obtain ⟨p,x,hx,hxi⟩:=hpx
    obtain ⟨o',ho',hmv⟩:=hM.get p x hx
    rw [hxi] at ho'
    refine Qi2 ho' ?_
    refine hmv _ (shape p) (reads p x hx hxi) a w G S _ Q hP fun a' w' G' S' K'=> ?_
    have hcl':Qk1 ops (L.setIfInBounds i true):=by
     intro j o hj ho e hee hb
     rw [hset] at hj⊢
     by_cases e2:e.on=i
     ·rw [if_pos e2]
     ·rw [if_neg e2]
      by_cases e1:j=i
      ·subst e1;exact hie o ho e hee hb
      ·rw [if_neg e1] at hj;exact hcl j o hj ho e hee hb
    have hun':unl (fun j=>(L.setIfInBounds i true).getD j false) ops.size≤fuel:=by
     have:=Qpj (f:=fun j=>L.getD j false) (f':=fun j=>(L.setIfInBounds i true).getD j false) hil hset hin
     omega
    refine ih (L.setIfInBounds i true) a' w' G' (by simpa using hsz) (fun j hj=> ?_) ?_ hcl' hun' ?_ (hP.trans K')
    ·rw [hset];split
     ·rfl
     ·exact hlo j hj
    ·rw [hset,if_neg (fun e=>him e.symm)];exact hm
    ·have hL':∀q,posL FL (L.setIfInBounds i true) q=if q=0+p then true else posL FL L q:=fun q=>by
      rw [Nat.zero_add]
      by_cases e:q=p
      ·subst e;rw [if_pos rfl,Qip hx,hset,if_pos hxi]
      ·rw [if_neg e]
       unfold posL
       cases hq:FL[q]? with
       |none=>rfl
       |some y=>
        simp only
        rw [hset,if_neg fun h=>e (hnd q p y x hq hx (h.trans hxi.symm))]
     have hadd:=Qpl (L:=posL FL L) (L':=posL FL (L.setIfInBounds i true)) (FL.map (·.2)) p 0 σ (hget hx) (by rw [Nat.zero_add,Qip hx,hxi];exact hil) hL' fun q D' hq hpq hL u hu v hv=>by
      obtain ⟨y,hy,rfl⟩:=hget2 hq
      rw [Nat.zero_add,Qip hy] at hL
      exact (QeV (after_p p x q y hx (by rw [hxi];exact hil) hy hpq hL)).2.2 v hv u hu
     rw [hadd]
     exact S'
theorem Qtc {Q:Exit→Act→World→Prop} (he:QcN 0 ops.toList=true) {s:Nat} {E:List Did} {σ σ':St} (hst:Steps ZZ ρ ν P B W0 d ops σ s E σ') (_hlt:s+E.length<ops.size) (hd:Qw3 ZZ ρ ν P B W0 d ops (s+E.length) σ' E.reverse)
  {fuel:Nat} {L:Array Bool} {a:Act} {w:World} {G:Gh} (hsz:L.size=ops.size) (hlo:∀j,j<s→L.getD j false=true) (hhi:∀j,s≤j→L.getD j false=false) (hcl:Qk1 ops L) (hun:unl (fun j=>L.getD j false) ops.size≤fuel)
  (S:Sim P B W0 d σ a w G) (hP:PanQ ZZ B d w G Q):wpAnyIn (FR ρ) ν P .any ops Q fuel L a w:=by
 obtain ⟨o,vs,X,ho,hdie,hX,hXi,hag⟩:=hd
 obtain ⟨h1,h2⟩:=QnL hst
 subst h2
 obtain ⟨f1,f2,f3⟩:=Qm7 (before:=(Region.before ops).toList) (i:=s+E.length) ops.toList 0
 rw [Qos] at hag
 obtain ⟨FL,hFL⟩:∃FL,FL=QcQ s E++(s+E.length,QfB ops.toList o (aft σ (QcQ s E)) vs)::X:=⟨_,rfl⟩
 have hrev:X.reverse++(s+E.length,QfB ops.toList o (aft σ (QcQ s E)) vs)::(QcQ s E).reverse=FL.reverse:=by rw [hFL];simp
 rw [hrev] at hag
 have hpair:=List.pairwise_reverse.1 (QoR hag)
 have hXlt:∀x∈X,s+E.length<x.1:=fun x hx=>by
  have:x.1∈(Qde (Region.before ops).toList (s+E.length) 0 ops.toList).map (·.1):=by rw [←hXi];exact List.mem_map.2 ⟨x,hx,rfl⟩
  obtain ⟨q,hq,e⟩:=List.mem_map.1 this
  have:=(f1 q hq).1
  omega
 have hXinc:X.Pairwise fun x y=>x.1<y.1:=by
  have:(X.map (·.1)).Pairwise (· < ·):=by rw [hXi];exact List.pairwise_map.2 f3
  exact List.pairwise_map.1 this
 have hup:∀x∈QcQ s E,x.1<s+E.length:=fun x hx=>by
  obtain ⟨p,hp⟩:=List.getElem?_of_mem hx
  have h3:=(QgL E s p x hp).1
  have h4:=(List.getElem?_eq_some_iff.1 hp).1
  rw [Qfn] at h4
  omega
 have hupinc:(QcQ s E).Pairwise fun x y=>x.1<y.1:=by
  rw [List.pairwise_iff_getElem]
  intro i j hi hj hij
  have h3:=(QgL E s i _ (List.getElem?_eq_getElem hi)).1
  have h4:=(QgL E s j _ (List.getElem?_eq_getElem hj)).1
  omega
 have hinc:FL.Pairwise fun x y=>x.1<y.1:=by
  rw [hFL,List.pairwise_append]
  refine ⟨hupinc,List.pairwise_cons.2 ⟨fun x hx=>hXlt x hx,hXinc⟩,fun x hx y hy=> ?_⟩
  have:=hup x hx
  rcases List.mem_cons.1 hy with rfl|hy
  ·exact this
  ·have:=hXlt y hy;omega
 have hpm:FL[E.length]?=some (s+E.length,QfB ops.toList o (aft σ (QcQ s E)) vs):=by
  rw [hFL,List.getElem?_append_right (by rw [Qfn];exact Nat.le_refl _),Qfn]
  simp
 have htk:FL.take E.length=QcQ s E:=by
  rw [hFL,List.take_append_of_le_length (by rw [Qfn];exact Nat.le_refl _),List.take_of_length_le (by rw [Qfn];exact Nat.le_refl _)]
 have hall:DSteps ZZ ρ ν P B W0 d ops σ FL:=by
  rw [hFL]
  refine h1.append ⟨⟨o,ho, ?_⟩,hX⟩
  intro σ2 q1 q2 a w G S K Q hP _
  exact hdie σ2 q1 q2 a w G S K Q hP
 refine QwE he ho hpm (by rw [htk];exact hdie) hall (fun p q x y hpq hy hx=> ?_) (fun p q x y hx hy e=> ?_) (s:=s) (fun j hj=> ?_) fuel L a w G hsz hlo (hhi _ (by omega)) hcl hun ?_ hP
 ·rw [List.pairwise_iff_getElem] at hpair
  obtain ⟨p1,rfl⟩:=List.getElem?_eq_some_iff.1 hy
  obtain ⟨q1,rfl⟩:=List.getElem?_eq_some_iff.1 hx
  exact hpair p q p1 q1 hpq
 ·rw [List.pairwise_iff_getElem] at hinc
  obtain ⟨p1,rfl⟩:=List.getElem?_eq_some_iff.1 hx
  obtain ⟨q1,rfl⟩:=List.getElem?_eq_some_iff.1 hy
  rcases Nat.lt_trichotomy p q with h|h|h
  ·have:=hinc p q p1 q1 h;omega
  ·exact h
  ·have:=hinc q p q1 p1 h;omega
 ·by_cases hjs:j<s
  ·exact .inl hjs
  by_cases hjm:j<s+E.length
  ·have hl:j-s<(QcQ s E).length:=by rw [Qfn];omega
   refine .inr (.inl ⟨j-s,(QcQ s E)[j-s], ?_, ?_⟩)
   ·rw [hFL,List.getElem?_append_left hl];exact List.getElem?_eq_getElem hl
   ·have:=(QgL E s (j-s) _ (List.getElem?_eq_getElem hl)).1
    omega
  by_cases hje:j=s+E.length
  ·exact .inr (.inl ⟨E.length,_,hpm,hje.symm⟩)
  ·obtain ⟨oj,hoj⟩:∃oj,ops.toList[j]?=some oj:=⟨_,List.getElem?_eq_getElem (by simpa using hj)⟩
   rcases f2 j oj hoj (by omega) with h|h
   ·rw [Nat.zero_add] at h;exact .inr (.inr h)
   ·rw [Nat.zero_add] at h
    have:j∈X.map (·.1):=by rw [hXi];exact List.mem_map.2 ⟨_,h,rfl⟩
    obtain ⟨x,hx,e⟩:=List.mem_map.1 this
    obtain ⟨p,hp⟩:=List.getElem?_of_mem (show x∈FL by rw [hFL];simp [hx])
    exact .inr (.inl ⟨p,x,hp,e⟩)
 ·have:part (posL FL L) σ 0 (FL.map (·.2))=σ:=Qka _ σ 0 fun q hq=>by
   rw [Nat.zero_add]
   unfold posL
   cases hx:FL[q]? with
   |none=>rfl
   |some x=>
    simp only
    refine hhi _ ?_
    have hm:=List.mem_of_getElem? hx
    rw [hFL] at hm
    rcases List.mem_append.1 hm with hm|hm
    ·obtain ⟨p,hp⟩:=List.getElem?_of_mem hm
     have:=(QgL E s p x hp).1
     omega
    ·rcases List.mem_cons.1 hm with rfl|hm
     ·exact Nat.le_add_right _ _
     ·have:=hXlt x hm;omega
  rw [this]
  exact S
theorem Qx9 (SE:Qa5 P) (CO:CallOK P B W0 call) (Iok:InlOK Z P B W0 inl) {k:St→Option β} {Q:Exit→Act→World→Prop} (he:QcN 0 ops.toList=true):
  ∀(fuel s:Nat) (E:List Did) (σ σ':St) (L:Array Bool) (a:Act) (w:World) (G:Gh),L.size=ops.size→Steps (Z r) ρ ν P B W0 d ops σ s E σ'→
   Qgk (Region.before ops).toList (s+E.length) E.reverse=true→
   ((s+E.length=ops.size∧k σ'=some r)∨
    (s+E.length<ops.size∧QhN (Region.before ops).toList (s+E.length) ops.size=true∧
     ∃o,ops[s+E.length]?=some o∧QyC (Z r) ρ ν P B W0 d ops (fun σ''=>Qkh P call inl d ops (s+E.length+1) [] k σ''=some r) σ' o))→
   (∀j,j<s→L.getD j false=true)→(∀j,s+E.length≤j→L.getD j false=false)→Qk1 ops L→unl (fun j=>L.getD j false) ops.size≤fuel→
   Sim P B W0 d (part (fun j=>L.getD j false) σ s E) a w G→
   PanQ (Z r) B d w G Q→(∀a' w' G' σ',Sim P B W0 d σ' a' w' G'→Keeps B d w w' G G'→k σ'=some r→Q .normal a' w')→
   wpAnyIn (FR ρ) ν P .any ops Q fuel L a w:=by
 intro fuel
 induction fuel with
 |zero=>
  intro s E σ σ' L a w G hsz hst hag htl hlo hhi hcl hun S hP hQ
  have hall:=Qpf (Nat.le_zero.1 hun)
  refine ⟨List.eq_nil_iff_forall_not_mem.2 fun i hi=> ?_, ?_⟩
  ·have h1:=(Qjc hsz).1 hi
   have:=hall i h1.1
   rw [h1.2.1] at this;cases this
  ·obtain ⟨h1,_⟩:=hst.get
   rcases htl with ⟨hn,hk⟩|⟨hn,_⟩
   ·rw [Qhj (L':=fun _=>true) E σ s fun q hq=>hall _ (by omega),←h1] at S
    exact hQ _ _ G _ S (Keeps.refl _ _ _ _) hk
   ·have:=hall _ hn
    rw [hhi _ (Nat.le_refl _)] at this;cases this
 |succ fuel ih=>
  intro s E σ σ' L a w G hsz hst hag htl hlo hhi hcl hun S hP hQ
  obtain ⟨h1,h2⟩:=hst.get
  refine ⟨fun hnil=> ?_,fun i hi=> ?_⟩
  ·have hall:∀j,j<ops.size→L.getD j false=true:=by
    rcases QoZ hsz he ops.size (Nat.le_refl _) with h|⟨i,hi⟩
    ·exact h
    ·rw [hnil] at hi;cases hi
   rcases htl with ⟨hn,hk⟩|⟨hn,_⟩
   ·rw [Qhj (L':=fun _=>true) E σ s fun q hq=>hall _ (by omega),←h1] at S
    exact hQ _ _ G _ S (Keeps.refl _ _ _ _) hk
   ·have:=hall _ hn
    rw [hhi _ (Nat.le_refl _)] at this;cases this
  ·obtain ⟨hin,hil,hie⟩:=(Qjc hsz).1 hi
   have hisz:i<L.size:=by omega
   have hset:=fun j=>Qt8 hisz j
   have hcl':Qk1 ops (L.setIfInBounds i true):=by
    intro j o hj ho e hee hb
    rw [hset] at hj⊢
    by_cases e2:e.on=i
    ·rw [if_pos e2]
    ·rw [if_neg e2]
     by_cases e1:j=i
     ·subst e1;exact hie o ho e hee hb
     ·rw [if_neg e1] at hj;exact hcl j o hj ho e hee hb
   have hun':unl (fun j=>(L.setIfInBounds i true).getD j false) ops.size≤fuel:=by
    have:=Qpj (f:=fun j=>L.getD j false) (f':=fun j=>(L.setIfInBounds i true).getD j false) hil hset hin
    omega
   have hsz':(L.setIfInBounds i true).size=ops.size:=by simpa using hsz
   by_cases him:i<s+E.length
   ·
    have his:s≤i:=Decidable.byContradiction fun hn=>by rw [hlo i (by omega)] at hil;cases hil
    obtain ⟨p,rfl⟩:∃p,i=s+p:=⟨i-s,by omega⟩
    have hp:p<E.length:=by omega
    obtain ⟨D,hD⟩:∃D,E[p]?=some D:=⟨E[p],by simp [hp]⟩
    obtain ⟨o,ho,hm⟩:=h2 p D hD
    have hagree:=fun p q x y hpq hy hx=>QpJ hag (by simp) p q x y hpq (by rw [List.reverse_reverse];exact hy) (by rw [List.reverse_reverse];exact hx)
    rw [List.length_reverse,Nat.add_sub_cancel] at hagree
    have before_p:∀q D',E[q]?=some D'→q<p→L.getD (s+q) false=false→D.conflict D'=false:=fun q D' hq hqp hL=>by
     rcases hagree q p D D' hqp hq hD with h|h
     ·have:=Qev hcl (s+p) (s+q) hie h
      rw [hL] at this;cases this
     ·exact h
    have after_p:∀q D',E[q]?=some D'→p<q→L.getD (s+q) false=true→D'.conflict D=false:=fun q D' hq hqp hL=>by
     rcases hagree p q D' D hqp hD hq with h|h
     ·have:=Qev hcl (s+q) (s+p) (fun o ho=>hcl _ o hL ho) h
      rw [hil] at this;cases this
     ·exact h
    refine Qi2 ho ?_
    refine hm (part (fun j=>L.getD j false) σ s E) ((QgW _ _ _ _).symm.trans (QgW _ _ _ _)) (fun l hl=> ?_) a w G S _ Q hP fun a' w' G' S' K'=> ?_
    ·refine Qkk E p s σ σ (Shape.refl σ) (Loc.same.refl σ l) hil fun q D' hq hor v hv=> ?_
     rcases hor with ⟨q1,q2⟩|⟨q1,q2⟩
     ·exact (QeV (before_p q D' hq q1 q2)).2.1 v hv l hl
     ·exact (QeV (after_p q D' hq q1 q2)).1 v hv l hl
    ·refine ih s E σ σ' _ a' w' G' hsz' hst hag htl (fun j hj=> ?_) (fun j hj=> ?_) hcl' hun' ?_ (hP.trans K') fun a'' w'' G'' σ'' S'' K''=>hQ _ _ _ _ S'' (K'.trans K'')
     ·rw [hset];split
      ·rfl
      ·exact hlo j hj
     ·rw [hset,if_neg (by omega)];exact hhi j hj
     ·rw [Qpl (L:=fun j=>L.getD j false) E p s σ hD hil hset fun q D' hq hpq hL u hu v hv=>(QeV (after_p q D' hq hpq hL)).2.2 v hv u hu]
      exact S'
   ·
    rcases htl with ⟨hn,hk⟩|⟨hn,hbar,o,ho,ht⟩
    ·omega
    ·obtain ⟨b1,b2⟩:=QsZ hbar
     have hi_eq:i=s+E.length:=Decidable.byContradiction fun hne=>by
      have:=Qev hcl i (s+E.length) hie (b2 i (by omega) hin)
      rw [hhi _ (Nat.le_refl _)] at this;cases this
     subst hi_eq
     have hall:∀j,j<s+E.length→L.getD j false=true:=fun j hj=>Qev hcl _ j hie (b1 j hj)
     rw [Qhj (L':=fun _=>true) E σ s fun q hq=>hall _ (by omega),←h1] at S
     refine Qi2 ho ?_
     refine ht a w G S _ Q hP fun a' w' G' σ'' S' K' hk=> ?_
     obtain ⟨E',τ,hst',htl'⟩:=Qjp SE CO Iok _ (s+E.length+1) (by omega) rfl [] σ'' S'.cfg hk
     rw [List.append_nil] at htl'
     have hlo2:∀j,j<s+E.length+1→(L.setIfInBounds (s+E.length) true).getD j false=true:=fun j hj=>by
      rw [hset];split
      ·rfl
      ·exact hall j (by omega)
     have hhi2:∀j,s+E.length+1≤j→(L.setIfInBounds (s+E.length) true).getD j false=false:=fun j hj=>by rw [hset,if_neg (by omega)];exact hhi _ (by omega)
     rcases or_assoc.2 htl' with htl'|⟨hl2,hdead⟩
     case inr=>exact Qtc he hst' hl2 hdead hsz' hlo2 hhi2 hcl' hun' S' (hP.trans K')
     have hpart:part (fun j=>(L.setIfInBounds (s+E.length) true).getD j false) σ'' (s+E.length+1) E'=σ'':=
      Qka E' σ'' _ fun q _=>by rw [hset,if_neg (by omega)];exact hhi _ (by omega)
     refine ih (s+E.length+1) E' σ'' τ _ a' w' G' hsz' hst' ?_ ?_ (fun j hj=> ?_) (fun j hj=> ?_) hcl' hun' (by rw [hpart];exact S') (hP.trans K') fun a'' w'' G'' σ3 S'' K''=>hQ _ _ _ _ S'' (K'.trans K'')
     ·rcases htl' with ⟨q1,q2,_⟩|⟨_,q2,_⟩
      ·rw [q1];exact q2
      ·exact q2
     ·rcases htl' with ⟨q1,_,q3⟩|⟨q1,_,q3,q4⟩
      ·exact .inl ⟨q1,q3⟩
      ·exact .inr ⟨q1,q3,q4⟩
     ·rw [hset];split
      ·rfl
      ·exact hall j (by omega)
     ·rw [hset,if_neg (by omega)];exact hhi j (by omega)
theorem QrE (SE:Qa5 P) (CO:CallOK P B W0 call) (Iok:InlOK Z P B W0 inl) (hmix:P.follows .mixedOrders=true) {k:St→Option β} {Q:Exit→Act→World→Prop} {id:Nat}
  (h:chkO (QcN 0 ops.toList) (QcX P call inl d (Region.before ops).toList ops.toList ops.toList 0 [] k σ)=some r) (S:Sim P B W0 d σ a w G) (hP:PanQ (Z r) B d w G Q)
  (hQ:∀a' w' G' σ',Sim P B W0 d σ' a' w' G'→Keeps B d w w' G G'→k σ'=some r→Q .normal a' w'):(Code.region id ops true).wpIn (FR ρ) ν P Q a w:=by
 obtain ⟨he,h⟩:=Qaf h
 refine wpIn_region_any hmix ?_
 have hb:Below B w {w with drawn:=w.drawn+1}:=⟨rfl,rfl,rfl,Nat.le_refl _,fun _ _=>rfl⟩
 have K0:Keeps B d w {w with drawn:=w.drawn+1} G G:=Keeps.sameHeap rfl hb
 obtain ⟨E,σ',hst,htl⟩:=Qjp SE CO Iok _ 0 (by omega) rfl [] σ S.cfg h
 rw [List.append_nil] at htl
 have hL:∀j,(Array.replicate ops.size false).getD j false=false:=fun j=>by
  rw [Array.getD_eq_getD_getElem?,Array.getElem?_replicate];split<;>rfl
 have hun:unl (fun j=>(Array.replicate ops.size false).getD j false) ops.size≤ops.size:=by
  have:∀n,unl (fun j=>(Array.replicate ops.size false).getD j false) n≤n:=fun n=>by
   induction n with
   |zero=>simp [unl]
   |succ n ih=>simp only [unl];split<;>omega
  exact this _
 rcases or_assoc.2 htl with htl|⟨hl2,hdead⟩
 case inr=>exact Qtc he hst hl2 hdead (by simp) (fun j hj=>by omega) (fun j _=>hL j) (fun j o hj=>by rw [hL] at hj;cases hj) hun (S.sameHeap rfl hb) (hP.trans K0)
 refine Qx9 SE CO Iok he ops.size 0 E σ σ' _ a _ G (by simp) hst ?_ ?_ (fun j hj=>by omega) (fun j _=>hL j) (fun j o hj=>by rw [hL] at hj;cases hj) hun ?_ (hP.trans K0) fun a' w' G' σ'' S' K'=>hQ _ _ _ _ S' (K0.trans K')
 ·rcases htl with ⟨q1,q2,_⟩|⟨_,q2,_⟩
  ·rw [q1];exact q2
  ·exact q2
 ·rcases htl with ⟨q1,_,q3⟩|⟨q1,_,q3,q4⟩
  ·exact .inl ⟨q1,q3⟩
  ·exact .inr ⟨q1,q3,q4⟩
 ·rw [Qka E σ 0 fun q _=>hL _]
  exact S.sameHeap rfl hb
end Go.Am
set_option linter.unusedVariables false
set_option linter.unusedSimpArgs false
namespace Go.Am
open Go.RowKit
variable {P:Program} {B:Nat} {W0:Base} {d:Nat} {σ:St} {a:Act} {w:World} {G:Gh} {β:Type} {call:FuncId→List CV→Option CV}
 {inl:FuncId→List AV→MemT→(AV→MemT→Option β)→Option β} {r:β} {m:Nat} {ρ:Option Nat} {ν:Nat} {ZZ:List PanicEntry→Prop} {Z:β→List PanicEntry→Prop}
theorem box?_append (mem:MemT) (n d s:Nat):box? (mem++ [List.replicate n none]) d s=box? mem d s:=by
 unfold box?
 simp only [Qar]
 by_cases h:d<mem.length
 ·rw [List.getElem?_append_left h]
 ·rw [List.getElem?_append_right (by omega),List.getElem?_eq_none (l:=mem) (by omega)]
  by_cases e:d=mem.length
  ·subst e
   simp [List.getElem?_replicate]
   split<;>rfl
  ·have h2:([List.replicate n none]:MemT)[d-mem.length]?=none:=List.getElem?_eq_none (by simp;omega)
   rw [h2]
theorem QeW {b:Frame} {a:Act} {k:List Item} {cs:List Frame} {w:World} {c:Code}:step P (lone (b.atR a (.code (.scope c)::k)) cs w)= .next (lone (b.atR a (.code c:: .inScope c::k)) cs w):=
 step_lone_go (by cases h:b.roundOf<;>simp [stepG,stepG.exec,Frame.atR,h])
theorem Qsu {b:Frame} {a:Act} {k:List Item} {cs:List Frame} {w:World} {c:Code}:step P (lone (b.atR a (.inScope c::k)) cs w)= .next (lone (b.atR a k) cs w):=
 step_lone_go (by cases h:b.roundOf<;>simp [stepG,stepG.exec,Frame.atR,h])
theorem QmN {F:Fence} {n:Nat} {Q:Exit→Act→World→Prop} {c:Code} (h:c.wpIn F n P (Exit.noGoto Q) a w):(Code.scope c).wpIn F n P Q a w:=by
 intro b k cs hro hb hr
 have h0:(lone (b.atR a (.code (.scope c)::k)) cs w).fenced P F:=fenced_calm hb hr rfl
 obtain ⟨e,a₁,w₁,hq,harr⟩:=h b (.inScope c::k) cs hro hb hr
 have hx:∀id,exitTo id (.inScope c::k)=exitTo id k:=fun id=>by simp [exitTo]
 cases e with
 |normal=>exact ⟨.normal,a₁,w₁,hq, .head h0 QeW (StepsIn.trans harr (.one (fenced_calm hb hr rfl) Qsu))⟩
 | exit id=>exact ⟨.exit id,a₁,w₁,hq,fun k' hk=> .head h0 QeW (harr.1 k' (by rw [hx];exact hk)),
   fun hr' hk=>let ⟨k₁,h1,h2⟩:=harr.2 hr' (by rw [hx];exact hk);⟨k₁,h1, .head h0 QeW h2⟩⟩
 |goto l=>exact hq.elim
 |ret=>exact ⟨_,a₁,w₁,hq, .of_steps (.one h0 QeW) harr⟩
 |panic ch=>exact ⟨_,a₁,w₁,hq, .of_steps (.one h0 QeW) harr⟩
 |outgrown=>exact ⟨_,a₁,w₁,hq, .of_steps (.one h0 QeW) harr⟩
def Ex.out:Ex→Exit
 | .normal=> .normal
 | .exit id=> .exit id
 | .ret=> .ret
structure Post (ZZ:List PanicEntry→Prop) (P:Program) (B:Nat) (W0:Base) (d:Nat) (k:Ex→St→Option β) (r:β) (w:World) (G:Gh) (Q:Exit→Act→World→Prop):Prop where
 go:∀e a' w' G' σ',Sim P B W0 d σ' a' w' G'→Keeps B d w w' G G'→k e σ'=some r→Q e.out a' w'
 pan:PanQ ZZ B d w G Q
theorem Post.trans {k:Ex→St→Option β} {Q:Exit→Act→World→Prop} {w':World} {G':Gh} (h:Post ZZ P B W0 d k r w G Q) (K:Keeps B d w w' G G'):Post ZZ P B W0 d k r w' G' Q:=
 ⟨fun e a' w'' G'' σ' S' K' hk=>h.go e a' w'' G'' σ' S' (K.trans K') hk,h.pan.trans K⟩
def EvOK (ZZ:List PanicEntry→Prop) (ρ:Option Nat) (ν:Nat) (P:Program) (B:Nat) (W0:Base) (d:Nat) (r:β) (ev:Code→(Ex→St→Option β)→St→Option β):Prop:=
 ∀(c:Code) (k:Ex→St→Option β) (σ:St),ev c k σ=some r→∀a w G,Sim P B W0 d σ a w G→∀Q,Post ZZ P B W0 d k r w G Q→c.wpIn (FR ρ) ν P Q a w
theorem QqP {ev:Code→(Ex→St→Option β)→St→Option β} (hev:EvOK ZZ ρ ν P B W0 d r ev) {c:Code} {ts bs:List Nat} {k:Ex→St→Option β}:
  ∀(n:Nat) (σ:St),Qax ev d ts bs c k n σ=some r→∀a w G,Sim P B W0 d σ a w G→∀Q,Post ZZ P B W0 d k r w G Q→Code.roundsIn (FR ρ) ν P c Q n a w
 |0,σ,h,_,_,_,_,_,_=>by cases h
 |n+1,σ,h,a,w,G,S,Q,hQ=>by
  rw [roundsIn_succ]
  change ev c (Qcz d ts bs (Qax ev d ts bs c k n) k) σ=some r at h
  refine hev c _ σ h a w G S _ ⟨fun e a' w' G' σ' S' K' hk=> ?_,fun ch a' w' G' hz m K'=>hQ.pan ch a' w' G' hz m K'⟩
  cases e with
  |normal=>
   obtain ⟨G2,S2,K2⟩:=S'.clear d ts bs (.inr rfl)
   have hk:hold (Qax ev d ts bs c k n (clear d ts bs σ'))=some r:=hk
   rw [Qah] at hk
   exact QqP hev n _ hk a' w' G2 S2 Q (hQ.trans (K'.trans K2))
  |exit id=>exact hQ.go (.exit id) _ _ _ _ S' K' hk
  |ret=>exact hQ.go .ret _ _ _ _ S' K' hk
theorem QlM:∀{cs:List AV} {vs:List Value} {c:List CV},vs.length=cs.length→(∀o,o<cs.length→∃v p,vs[o]?=some v∧v.oneCell'=true∧ARep P w G p (nthD .any cs o) v)→QbF cs=some c→CRepV w G.hw c vs
 | [],vs,c,hl,_,h=>by
  simp only [QbF,Option.some.injEq] at h;subst h
  simp only [CRepV]
  exact List.eq_nil_of_length_eq_zero (by simpa using hl)
 |x::cs,vs,c,hl,hr,h=>by
  cases vs with
  |nil=>simp at hl
  |cons u vs=>
   have ih:∀{c'},QbF cs=some c'→CRepV w G.hw c' vs:=fun h'=>QlM (by simpa using hl) (fun o ho=>by
    obtain ⟨v,p,h1,h2,h3⟩:=hr (o+1) (by simpa using ho)
    exact ⟨v,p,by simpa using h1,h2,by simpa [nthD] using h3⟩) h'
   obtain ⟨v,p,h1,h2,h3⟩:=hr 0 (by simp)
   simp only [List.getElem?_cons_zero,Option.some.injEq] at h1
   subst h1
   simp only [nthD] at h3
   cases x with
   |val cv=>
    simp only [QbF] at h
    obtain ⟨c',he,rfl⟩:=Option.map_eq_some_iff.1 h
    simp only [ARep] at h3
    simp only [CRepV]
    exact ⟨_,_,rfl,h2,h3,ih he⟩
   |lst own n e l=>
    simp only [QbF] at h
    obtain ⟨c',he,rfl⟩:=Option.map_eq_some_iff.1 h
    simp only [CRepV]
    exact ⟨_,_,rfl,h2,h3.list,ih he⟩
   |_=>simp [QbF] at h
theorem QmB:∀{caps:List AV} {m:MemT} {l:List ((Nat×Nat)×List CV)} {vs:List Value},QhH d m caps=some l→ARepL P w G caps vs→
  (l.map (·.1)).Nodup∧∃bs:List Nat,vs=bs.map (fun b=>Value.pointer (some (Qas b 0)))∧bs.length=l.length∧∀(i:Nat) (q:(Nat×Nat)×List CV) (b:Nat),l[i]?=some q→bs[i]?=some b→q.1.1=d∧G.blk q.1.1 q.1.2=some b∧∃c,box? m q.1.1 q.1.2=some c∧QbF c=some q.2
 | [],m,l,vs,h,hr=>by
  simp only [QhH,Option.some.injEq] at h;subst h
  simp only [ARepL] at hr;subst hr
  exact ⟨by simp, [],rfl,rfl,fun i q b h=>by simp at h⟩
 |x::caps,m,l,vs,h,hr=>by
  simp only [ARepL] at hr
  obtain ⟨v,rest,rfl,hv,hr⟩:=hr
  cases x with
  |ptr d' s o=>
   simp only [QhH] at h
   split at h
   ·rename_i c hdo hbx
    split at h
    ·rename_i v' l' hv' hl'
     obtain ⟨h0,bs,rfl,h2,h3⟩:=QmB hl' hr
     cases hnc:(l'.map (·.1)).contains (d',s) with
     |true=>rw [hnc] at h;cases h
     |false=>
     rw [hnc] at h
     simp only [Option.some.injEq] at h
     subst h
     simp only [Bool.and_eq_true,beq_iff_eq] at hdo
     obtain ⟨rfl,rfl⟩:=hdo
     simp only [ARep] at hv
     obtain ⟨b,hb,rfl⟩:=hv
     refine ⟨by rw [List.map_cons,List.nodup_cons];exact ⟨by simpa using hnc,h0⟩,b::bs,rfl,by simp [h2],fun i q b' hq hb'=> ?_⟩
     cases i with
     |zero=>
      simp only [List.getElem?_cons_zero,Option.some.injEq] at hq hb'
      subst hq hb'
      exact ⟨rfl,hb,c,hbx,hv'⟩
     |succ i=>exact h3 i q b' (by simpa using hq) (by simpa using hb')
    ·cases h
   ·cases h
  |_=>simp [QhH] at h
theorem Qu2 {k:List CV→Option β}:∀(x:List CV),lits x.length x k=k x
 | []=>rfl
 |c::x=>by
  show (optO (some c) fun c=>lits x.length x fun r=>k (c::r))=_
  exact Qu2 (k:=fun r=>k (c::r)) x
theorem Qsi:∀(ps:List Nat) (cs:List CV) (xs:List Value) (t:List AV) (u:Array Value),CRepT w G.hw cs xs→t.length=u.size→(∀i,ARep P w G .none (nthD .any t i) (u.getD i undef))→
  (Qey t ps cs).length=((ps.zip xs).foldl (fun t (q:Nat×Value)=>t.setIfInBounds q.1 q.2) u).size∧∀i,ARep P w G .none (nthD .any (Qey t ps cs) i) (((ps.zip xs).foldl (fun t (q:Nat×Value)=>t.setIfInBounds q.1 q.2) u).getD i undef)
 | [],cs,xs,t,u,_,hl,hr=>by
  simp only [Qey,List.zip_nil_left,List.foldl_nil]
  exact ⟨hl,hr⟩
 |p::ps, [],xs,t,u,hc,hl,hr=>by
  simp only [CRepT] at hc;subst hc
  simp only [Qey,List.zip_nil_right,List.foldl_nil]
  exact ⟨hl,hr⟩
 |p::ps,c::cs,xs,t,u,hc,hl,hr=>by
  simp only [CRepT] at hc
  obtain ⟨x,r,rfl,h1,h2⟩:=hc
  simp only [Qey,List.zip_cons_cons,List.foldl_cons]
  refine Qsi ps cs r _ _ h2 (by simp [QaK,hl]) fun i=> ?_
  rw [QaL,Array.getD_eq_getD_getElem?,Array.getElem?_setIfInBounds]
  by_cases e:i=p∧p<t.length
  ·rw [if_pos e,if_pos e.1.symm,if_pos (by omega),Option.getD_some]
   simpa only [ARep] using h1
  ·rw [if_neg e]
   by_cases e1:p=i
   ·have:¬p<t.length:=fun q=>e ⟨e1.symm,q⟩
    have hany:nthD AV.any t i= .any:=by rw [Qar,List.getElem?_eq_none (by omega)];rfl
    rw [hany];simp [ARep]
   ·rw [if_neg e1,←Array.getD_eq_getD_getElem?];exact hr i
theorem box?_dropTop {D:Nat} {m:MemT} (hm:m.length=D+1) (d s:Nat):box? (Qdc D m) d s=Qbp (fun d' _=>d'==D) m d s:=by
 unfold Qdc
 rw [box?_scrub]
 unfold Qbp
 by_cases e:d=D
 ·subst e
  have:box? (m.take d) d s=none:=by
   unfold box?
   rw [Qar [],List.getElem?_eq_none (by simp;omega)]
   rfl
  rw [this]
  simp
 ·have:box? (m.take D) d s=box? m d s:=by
   unfold box?
   rw [Qar [],Qar []]
   by_cases hlt:d<D
   ·rw [List.getElem?_take,if_pos hlt]
   ·rw [List.getElem?_eq_none (by simp;omega),List.getElem?_eq_none (by omega)]
  rw [this]
  simp [e]
theorem Keeps.growX {X:Nat→Prop} {W W':World} {G2:Gh} {mem:MemT} (K:Keeps B d w W G G2) (M:Mem P B W0 W G2 mem) (g:GrowX X W W') (hX:Off B G2 X) (hn:∀b,X b→b<w.heap.size→¬Free G b):Keeps B d w W' G G2:=by
 refine ⟨K.keep.trans (Qja M g hX .none).keep,fun b d' i hd h=> ?_,K.blk,K.below.trans ⟨g.os,g.tape,g.output,g.size,fun k hk=>g.block k (Nat.lt_of_lt_of_le hk M.base) fun hx=> ?_⟩,K.low,fun b hb hf=> ?_,K.lo⟩
 ·obtain ⟨q1,q2,q3⟩:=K.own b d' i hd h
  exact ⟨q1,q2,(g.block b (M.own b _ q1).2.1 fun hx=>by have:=(hX b hx).1.1;rw [q1] at this;cases this).trans q3⟩
 ·have:=(hX k hx).2.2;omega
 ·obtain ⟨q1,q2,q3⟩:=K.rest b hb hf
  exact ⟨q1,q2,(g.block b (Nat.lt_of_lt_of_le hb K.below.size) fun hx=>hn b hx hb hf).trans q3⟩
def Gh.setLo (G:Gh) (d n:Nat):Gh:={G with lo:=fun e=>if e=d then n else G.lo e}
theorem Qcg (W:World) (G:Gh) (d n:Nat) (q:Place):Same q W W G (G.setLo d n):=⟨Keep.refl _ _,fun _ _ _ h=>h,fun b h=>⟨h,rfl,rfl⟩⟩
theorem Mem.setLo {mem:MemT} (M:Mem P B W0 w G mem) (d n:Nat):Mem P B W0 w (G.setLo d n) mem:=by
 refine ⟨M.below,M.base,M.own,M.hw,M.blk,fun d' s cs hb=> ?_,M.inj,M.glob⟩
 obtain ⟨b,vs,T,fz,R⟩:=M.box d' s cs hb
 refine ⟨b,vs,T,fz,R.blk,R.lo,R.heap,R.free,R.hw,R.own,⟨R.rep.len,fun o ho=> ?_⟩⟩
 obtain ⟨v,h1,h2,h3⟩:=R.rep.rep o ho
 exact ⟨v,h1,h2,ARep.same (Qcg w G d n _) (Qcg w G d n _) _ h3⟩
structure RI (P:Program) (B:Nat) (W0:Base) (d:Nat) (w:World) (G:Gh) (p:Nat→Nat→Bool) (X:Nat→Prop) (W:World) (G2:Gh) (mem:MemT):Prop where
 M0:Mem P B W0 W G2 mem
 len:mem.length=d+1
 keeps:Keeps B d w W G G2
 blk:∀d' s b,p d' s=false→G.blk d' s=some b→G2.blk d' s=some b
 off:Off B G2 X
theorem QuU {ev1:Code→(Ex→St→Option β)→St→Option β} (Iok:InlOK Z P B W0 inl) (hev1:∀l,EvOK (Z r) (some l) ν P B W0 (d+1) r ev1) (hnz:∀ch,¬Z r ch) {g:Operand} {ps:Array Tmp} {asg body:Code} {k:Ex→St→Option β}
  {q:FuncId×List ((Nat×Nat)×List CV)} {it:List (List CV)→Option (List (List CV))} {items:List (List CV)} (hq:Qlo d σ g=some q) (hit:σ.K.iter q.1=some it) (hi:it (q.2.map (·.2))=some items) (hall:items.all (·.length==ps.size)=true)
  (h:Qbv ev1 (d+1) asg body ps.toList (σ.tmps.map fun v=>v.copy.scrub (capP q.2)) σ.K items (QcS k (σ.tmps.map fun v=>v.copy.scrub (capP q.2)) σ.K) m 0 (QbD (capP q.2) 0 σ.mem)=some r)
  (S:Sim P B W0 d σ a w G) {Q:Exit→Act→World→Prop} (hQ:Post (Z r) P B W0 d k r w G Q):(Code.rangeFunc g ps asg body).wpIn (FR none) ν P Q a w:=by
 unfold Qlo at hq
 split at hq
 ·rename_i t
  split at hq
  ·rename_i f caps hclo
   obtain ⟨l,hl,rfl⟩:=Option.map_eq_some_iff.1 hq
   simp only at hit hi h
   have hrep:=S.fr.rep t
   rw [hclo] at hrep
   simp only [ARep] at hrep
   obtain ⟨vs,hfun,hvs⟩:=hrep
   obtain ⟨hlnd,bs,rfl,hbl,hbs⟩:=QmB hl hvs
   have hnd:bs.Nodup:=by
    rw [List.nodup_iff_pairwise_ne,List.pairwise_iff_getElem]
    intro i j hi hj hij he
    obtain ⟨x,hx⟩:∃x,l[i]?=some x:=⟨_,List.getElem?_eq_getElem (by rw [←hbl];exact hi)⟩
    obtain ⟨y,hy⟩:∃y,l[j]?=some y:=⟨_,List.getElem?_eq_getElem (by rw [←hbl];exact hj)⟩
    obtain ⟨_,k1,_⟩:=hbs i x _ hx (List.getElem?_eq_getElem hi)
    obtain ⟨_,k2,_⟩:=hbs j y _ hy (List.getElem?_eq_getElem hj)
    rw [he] at k1
    have hxy:=S.mem.inj _ _ _ _ _ k1 k2
    have hp:=List.pairwise_iff_getElem.1 (List.nodup_iff_pairwise_ne.1 hlnd) i j (by simp;omega) (by simp;omega) hij
    rw [List.getElem_map,List.getElem_map] at hp
    have e1:l[i]'(by omega)=x:=by have:=List.getElem?_eq_getElem (l:=l) (i:=i) (by omega);rw [hx] at this;exact (Option.some.inj this).symm
    have e2:l[j]'(by omega)=y:=by have:=List.getElem?_eq_getElem (l:=l) (i:=j) (by omega);rw [hy] at this;exact (Option.some.inj this).symm
    exact hp (by rw [e1,e2];exact Prod.ext hxy.1 hxy.2)
   have hbs2:∀b∈bs,∃s,capP l d s=true∧G.blk d s=some b:=fun b hb=>by
    obtain ⟨i,hi⟩:=List.getElem?_of_mem hb
    obtain ⟨x,hx⟩:∃x,l[i]?=some x:=⟨_,List.getElem?_eq_getElem (by rw [←hbl];exact (List.getElem?_eq_some_iff.1 hi).1)⟩
    obtain ⟨h1,h2,_⟩:=hbs i x b hx hi
    refine ⟨x.1.2, ?_,by rw [←h1];exact h2⟩
    unfold capP
    simp only [List.contains_eq_mem,List.mem_map,decide_eq_true_eq]
    exact ⟨x,List.mem_of_getElem? hx,by rw [←h1]⟩
   have hcapd:∀d' s,capP l d' s=true→d'=d:=fun d' s hp=>by
    unfold capP at hp
    simp only [List.contains_eq_mem,List.mem_map,decide_eq_true_eq] at hp
    obtain ⟨x,hx,he⟩:=hp
    obtain ⟨i,hi⟩:=List.getElem?_of_mem hx
    obtain ⟨b,hb⟩:∃b,bs[i]?=some b:=⟨_,List.getElem?_eq_getElem (by rw [hbl];exact (List.getElem?_eq_some_iff.1 hi).1)⟩
    have:=(hbs i x b hi hb).1
    rw [he] at this;exact this
   have hbx:∀b∈bs,∃s cs us T fz,capP l d s=true∧BoxRep P B w G d s cs b us T fz:=fun b hb=>by
    obtain ⟨s,h1,h2⟩:=hbs2 b hb
    obtain ⟨cs,us,T,fz,_,R⟩:=S.mem.blk_box h2
    exact ⟨s,cs,us,T,fz,h1,R⟩
   have hblt:∀b∈bs,b<w.heap.size:=fun b hb=>by
    obtain ⟨_,_,_,_,_,_,R⟩:=hbx b hb
    exact R.lt
   obtain ⟨eg,xs,hxl,hxr,hseq⟩:=Iok.iter f it (by rw [←S.cfg];exact hit) _ items hi w G.hw bs S.mem.below S.mem.hw (by simp [hbl]) hnd (fun i c b hc hb=>by
    obtain ⟨x,hx,rfl⟩:∃x,l[i]?=some x∧x.2=c:=by simpa using hc
    obtain ⟨h1,h2,c',h3,h4⟩:=hbs i x b hx hb
    obtain ⟨b',us,T,fz,R⟩:=S.mem.box _ _ _ h3
    obtain rfl:b'=b:=by have:=R.blk.symm.trans h2;simpa using this
    have hnr:Qaz c'=false:=by
     cases hr:Qaz c' with
     |false=>rfl
     |true=>obtain ⟨e,l,rfl⟩:=Qc8 hr;simp [QbF] at h4
    exact ⟨us,T,fz,R.cells (Qbw hnr),QlM (R.rep.plain hnr).1 (fun o ho=>by obtain ⟨v,r1,r2,r3⟩:=(R.rep.plain hnr).2 o ho;exact ⟨v,_,r1,r2,r3⟩) h4,R.hw,R.free⟩)
   have ri0:RI P B W0 d w G (capP l) (QbR bs w) w (G.drop (capP l)) (QbD (capP l) 0 σ.mem):=by
    refine ⟨S.mem.drop fun d' s=>box?_maskMem _ _ _,by rw [QfK];exact S.depth,Keeps.drop fun d' s hlt=> ?_,fun d' s b hp hb=>by simp [Gh.drop,hp,hb],fun b hb=> ?_⟩
    ·cases hp:capP l d' s with
     |false=>rfl
     |true=>have:=hcapd d' s hp;omega
    ·rcases hb with hb|rfl|rfl
     ·obtain ⟨s,cs,us,T,fz,hp,R⟩:=hbx b hb
      refine ⟨⟨R.own,fun d' s' hb'=> ?_⟩,R.hw,R.lo⟩
      simp only [Gh.drop] at hb'
      split at hb'
      ·cases hb'
      ·rename_i hn
       obtain ⟨rfl,rfl⟩:=S.mem.inj _ _ _ _ _ R.blk hb'
       exact hn hp
     all_goals
      refine ⟨⟨?_,fun d' s' hb'=> ?_⟩,S.mem.hw _ (by omega),by have:=S.mem.base;omega⟩
      ·cases ho:(G.drop (capP l)).own _ with
       |none=>rfl
       |some p=>have:=(S.mem.own _ p ho).2.1;omega
      ·simp only [Gh.drop] at hb'
       split at hb'
       ·cases hb'
       ·obtain ⟨_,_,_,_,_,R⟩:=S.mem.blk_box hb'
        have:=R.lt
        omega
   have hnew:∀b,QbR bs w b→b<w.heap.size→¬Free G b:=fun b hb hlt hf=>by
    rcases hb with hb|rfl|rfl
    ·obtain ⟨s,_,h2⟩:=hbs2 b hb
     exact hf.2 _ _ h2
    ·omega
    ·omega
   have grow:∀{W W':World} {G2:Gh} {mem:MemT},RI P B W0 d w G (capP l) (QbR bs w) W G2 mem→GrowX (QbR bs w) W W'→RI P B W0 d w G (capP l) (QbR bs w) W' G2 mem:=fun R g=>
    ⟨R.M0.growX g R.off,R.len,R.keeps.growX R.M0 g R.off hnew,R.blk,R.off⟩
   obtain ⟨tm,htm⟩:∃tm,tm=σ.tmps.map fun v=>v.copy.scrub (capP l):=⟨_,rfl⟩
   rw [←htm] at h
   have tml:tm.length=a.tmps.size:=by rw [htm,List.length_map];exact S.fr.len.symm
   have tmr:∀{W:World} {G2:Gh} {mem:MemT},RI P B W0 d w G (capP l) (QbR bs w) W G2 mem→∀i,ARep P W G2 .none (nthD .any tm i) (a.tmps.getD i undef):=fun {W G2 mem} R i=>by
    have h1:ARep P w (G.drop (capP l)) .none (nthD .any tm i) (a.tmps.getD i undef):=by
     have e:nthD .any tm i=(nthD .any σ.tmps i).copy.scrub (capP l):=by
      rw [htm,Qar,Qar,List.getElem?_map]
      cases σ.tmps[i]?<;>rfl
     rw [e]
     exact ((S.fr.rep i).copy (q:= .none)).scrub (by intro d s o h;cases h)
    have N:Same .none w W (G.drop (capP l)) G2:=⟨R.keeps.keep,fun d' s b hb=>by
     simp only [Gh.drop] at hb
     split at hb
     ·cases hb
     ·rename_i hn
      exact R.blk d' s b (by simpa using hn) hb,fun b hb=>(S.mem.noNone b hb).elim⟩
    exact ARep.same N N _ h1
   have simOf:∀{W:World} {G2:Gh} {mem:MemT},RI P B W0 d w G (capP l) (QbR bs w) W G2 mem→W.heap[w.heap.size]?=some (.deferred (some []))→
     Sim P B W0 d {tmps:=tm,mem:=mem,K:=σ.K} {a with defers:={target:= .collected w.heap.size,args:= #[]}::a.defers} W G2:=fun {W G2 mem} R hk=>by
    refine ⟨R.M0,R.len,⟨tml.symm,fun i=>ARep.ofNone R.M0.noNone (tmr R i)⟩,S.cfg, ?_⟩
    obtain ⟨m0,Ds,m1,m2,m3⟩:=S.marks
    have hlo:=R.keeps.lo d (Nat.le_refl _)
    refine ⟨by rw [hlo];exact Nat.le_trans m0 R.keeps.below.size,w.heap.size::Ds,by rw [m1];rfl,List.nodup_cons.2 ⟨fun hD=> ?_,m2⟩,fun D hD=> ?_⟩
    ·have:=(Array.getElem?_eq_some_iff.1 (m3 _ hD).2.1).1;omega
    ·rcases List.mem_cons.1 hD with rfl|hD
     ·exact ⟨by rw [hlo];exact m0,hk,(R.off _ (.inr (.inl rfl))).1,(R.off _ (.inr (.inl rfl))).2.1⟩
     ·obtain ⟨q0,q1,q2,q3⟩:=m3 D hD
      obtain ⟨r1,r2,r3⟩:=R.keeps.rest D (Array.getElem?_eq_some_iff.1 q1).1 q2
      exact ⟨by rw [hlo];exact q0,by rw [r3];exact q1,r1,r2.trans q3⟩
   refine QuV (gf:=f) (lb:=(bs.map fun b=>Value.pointer (some (Qas b 0))).toArray) hfun eg hseq hblt ?_
    (fun i W=>∃n G2 mem,RI P B W0 d w G (capP l) (QbR bs w) W G2 mem∧Qbv ev1 (d+1) asg body ps.toList tm σ.K items (QcS k tm σ.K) n i mem=some r)
    (fun c W=>∃G2 mem,RI P B W0 d w G (capP l) (QbR bs w) W G2 mem∧((c= .ret∧QcS k tm σ.K .ret mem=some r)∨∃id,c= .exit id∧QcS k tm σ.K (.exit id) mem=some r))
    (fun i W W' ⟨n,G2,mem,R,hr⟩ g=>⟨n,G2,mem,grow R g,hr⟩) (fun c W W' ⟨G2,mem,R,hr⟩ g=>⟨G2,mem,grow R g,hr⟩) (fun i W ⟨_,_,_,R,_⟩ b o hb=>R.keeps.keep.cell b o hb) ⟨m,_,_,ri0,h⟩ ?_ ?_ ?_
   ·
    intro x hx
    obtain ⟨i,hi⟩:=List.getElem?_of_mem hx
    obtain ⟨c,hc⟩:∃c,items[i]?=some c:=⟨_,List.getElem?_eq_getElem (by rw [←hxl];exact (List.getElem?_eq_some_iff.1 hi).1)⟩
    have h1:=CRepT.length (hxr i x c hi hc)
    have h2:=List.all_eq_true.1 hall c (List.mem_of_getElem? hc)
    simp only [beq_iff_eq] at h2
    rw [←h2,←h1]
    simp
   ·
    rintro lp i x W ⟨n,G2,mem,R,hr⟩ hx hs
    cases n with
    |zero=>cases hr
    |succ n=>
     have hilt:i<items.length:=by rw [←hxl];exact (List.getElem?_eq_some_iff.1 hx).1
     have hr:(bif decide (i<items.length) then optO items[i]? fun x=>lits ps.toList.length x fun x=>(ev1 asg (Qit ev1 (d+1) body (Qbv ev1 (d+1) asg body ps.toList tm σ.K items (QcS k tm σ.K) n (i+1)) (QcS k tm σ.K)) {tmps:=Qey tm ps.toList x,mem:=mem++ [List.replicate tm.length none],K:=σ.K})
      else QcS k tm σ.K .normal mem)=some r:=hr
     rw [decide_eq_true hilt,cond_true] at hr
     obtain ⟨c,hc,hr⟩:=Qag hr
     have hcl:=List.all_eq_true.1 hall c (List.mem_of_getElem? hc)
     rw [show ps.toList.length=c.length by simp only [beq_iff_eq] at hcl;rw [hcl,Array.length_toList],Qu2] at hr
     have hcr:CRepT W G2.hw c x.toList:=CRepT.keep R.keeps.keep _ (hxr i x c hx hc)
     obtain ⟨G3,hG3⟩:∃G3,G3=G2.setLo (d+1) W.heap.size:=⟨_,rfl⟩
     have hlo3:G3.lo (d+1)=W.heap.size:=by rw [hG3];simp [Gh.setLo]
     have hfree3:∀b,Free G2 b→Free G3 b:=fun b hf=>by rw [hG3];exact hf
     have hpl:=Qsi (P:=P) (w:=W) (G:=G2) ps.toList c x.toList tm a.tmps hcr tml (tmr R)
     have S1:Sim P B W0 (d+1) {tmps:=Qey tm ps.toList c,mem:=mem++ [List.replicate tm.length none],K:=σ.K} {tmps:=(ps.zip x).foldl (fun t (p,v)=>t.setIfInBounds p v) a.tmps,defers:= []} W G3:=by
      have e:(ps.zip x).foldl (fun t (p,v)=>t.setIfInBounds p v) a.tmps=(ps.toList.zip x.toList).foldl (fun t (q:Nat×Value)=>t.setIfInBounds q.1 q.2) a.tmps:=by
       rw [←Array.foldl_toList,Array.toList_zip]
      rw [e]
      refine ⟨?_,by simp [R.len],⟨hpl.1.symm,fun j=> ?_⟩,S.cfg,Mk.nil (by rw [hlo3];exact Nat.le_refl _)⟩
      ·rw [hG3];exact (R.M0.setLo _ _).congr (box?_append mem _)
      ·rw [hG3]
       exact ARep.ofNone (G:=G2.setLo (d+1) W.heap.size) R.M0.noNone (ARep.same (Qcg W G2 _ _ _) (Qcg W G2 _ _ _) _ (hpl.2 j))
     have K3:Keeps B d w W G G3:=by
      refine ⟨R.keeps.keep.trans (by rw [hG3];exact Keep.refl _ _), ?_, ?_,R.keeps.below, ?_, ?_, ?_⟩
      ·rw [hG3];exact R.keeps.own
      ·rw [hG3];exact R.keeps.blk
      ·rw [hG3];exact R.keeps.low
      ·rw [hG3];exact R.keeps.rest
      ·intro d' hd'
       rw [hG3]
       show (if d'=d+1 then _ else G2.lo d')=_
       rw [if_neg (by omega)];exact R.keeps.lo d' hd'
     have off3:Off B G3 (QbR bs w):=by rw [hG3];exact R.off
     have xlt:∀b,QbR bs w b→b<W.heap.size:=fun b hb=>by
      rcases hb with hb|rfl|rfl
      ·have:=hblt b hb;omega
      ·omega
      ·omega
     refine hev1 lp asg _ _ hr _ W G3 S1 _ ⟨fun e a' W1 G4 σ4 S4 K4 hk=> ?_,fun ch _ _ _ hz=>absurd hz (hnz ch)⟩
     cases e with
     |exit id=>cases hk
     |ret=>cases hk
     |normal=>
      have off4:Off B G4 (QbR bs w):=fun b hb=>by
       obtain ⟨o1,o2,o3⟩:=off3 b hb
       obtain ⟨r1,r2,_⟩:=K4.rest b (xlt b hb) o1
       exact ⟨r1,r2.trans o2,o3⟩
      refine ⟨⟨K4.below.size,fun b hb hlt=>(K4.rest b hlt (off3 b hb).1).2.2⟩,fun W2 g=> ?_⟩
      have S4':Sim P B W0 (d+1) σ4 a' W2 G4:=S4.growX g off4 fun b hb=>by rw [K4.lo (d+1) (Nat.le_refl _),hlo3];exact xlt b hb
      have K4':Keeps B d w W2 G G4:=(K3.trans (K4.mono (Nat.le_succ d))).growX S4.mem g off4 hnew
      have xlt2:∀b,QbR bs w b→b<W2.heap.size:=fun b hb=>Nat.lt_of_lt_of_le (xlt b hb) (Nat.le_trans K4.below.size g.size)
      have hk:ev1 body (Qjs (d+1) (Qbv ev1 (d+1) asg body ps.toList tm σ.K items (QcS k tm σ.K) n (i+1)) (QcS k tm σ.K)) σ4=some r:=hk
      refine hev1 lp body _ _ hk a' W2 G4 S4' _ ⟨fun e2 a'' W3 G5 σ5 S5 K5 hk2=> ?_,fun ch _ _ _ hz=>absurd hz (hnz ch)⟩
      have hsame:Qn1 (QbR bs w) W2 W3:=⟨K5.below.size,fun b hb hlt=>(K5.rest b hlt (off4 b hb).1).2.2⟩
      have R6:RI P B W0 d w G (capP l) (QbR bs w) W3 (G5.drop fun d' _=>d'==d+1) (Qdc (d+1) σ5.mem):=by
       refine ⟨S5.mem.drop fun d' s=>box?_dropTop S5.depth d' s,by unfold Qdc Qaw;have:=S5.depth;simp;omega,(K4'.trans (K5.mono (Nat.le_succ d))).trans (Keeps.drop fun d' s hd'=>by simp;omega),fun d' s b hp hb=> ?_,fun b hb=> ?_⟩
       ·have hd':d'<d+1:=by have:=Qw4 S.mem hb;rw [S.depth] at this;exact this
        have h2:=R.blk d' s b hp hb
        have h3:G3.blk d' s=some b:=by rw [hG3];exact h2
        have h5:=K5.blk d' s b hd' (K4.blk d' s b hd' h3)
        simp only [Gh.drop]
        rw [if_neg (by simp;omega)];exact h5
       ·obtain ⟨o1,o2,o3⟩:=off4 b hb
        obtain ⟨r1,r2,_⟩:=K5.rest b (xlt2 b hb) o1
        exact ⟨(Qkr (w:=W3) (p:=fun d' _=>d'==d+1) b (Nat.lt_of_lt_of_le (xlt2 b hb) K5.below.size) r1).1,r2.trans o2,o3⟩
      cases e2 with
      |normal=>
       have hk2:hold (Qbv ev1 (d+1) asg body ps.toList tm σ.K items (QcS k tm σ.K) n (i+1) (Qdc (d+1) σ5.mem))=some r:=hk2
       rw [Qah] at hk2
       exact ⟨hsame,n,_,_,R6,hk2⟩
      |exit id=>exact ⟨hsame,_,_,R6, .inr ⟨id,rfl,hk2⟩⟩
      |ret=>exact ⟨hsame,_,_,R6, .inl ⟨rfl,hk2⟩⟩
   ·
    rintro W ⟨n,G2,mem,R,hr⟩ hk
    cases n with
    |zero=>cases hr
    |succ n=>
     have hr:(bif decide (xs.length<items.length) then optO items[xs.length]? fun x=>lits ps.toList.length x fun x=>(ev1 asg (Qit ev1 (d+1) body (Qbv ev1 (d+1) asg body ps.toList tm σ.K items (QcS k tm σ.K) n (xs.length+1)) (QcS k tm σ.K)) {tmps:=Qey tm ps.toList x,mem:=mem++ [List.replicate tm.length none],K:=σ.K})
      else QcS k tm σ.K .normal mem)=some r:=hr
     rw [decide_eq_false (by omega),cond_false] at hr
     exact hQ.go .normal _ _ _ _ (simOf R hk) R.keeps hr
   ·
    rintro c W ⟨G2,mem,R,hr⟩ hk
    rcases hr with ⟨rfl,hr⟩|⟨id,rfl,hr⟩
    ·exact wpIn_ret (hQ.go .ret _ _ _ _ (simOf R hk) R.keeps hr)
    ·exact wpIn_exit (hQ.go (.exit id) _ _ _ _ (simOf R hk) R.keeps hr)
  ·cases hq
 ·cases hq
theorem Quz {l:List Oper} {q:TypeId×Nat×Nat} (h:QqM l=some q):∃a b c,l= [a,b,c]∧a.op= .build q.1 #[]∧b.op= .makeInterface q.1 (.tmp q.2.1)∧c.op= .panic (.tmp q.2.2)∧a.dst=some q.2.1∧b.dst=some q.2.2∧a.guard=none∧b.guard=none∧c.guard=none:=by
 unfold QqM at h
 split at h
 ·rename_i a b c
  split at h
  ·rename_i t parts t' x y h1 h2 h3
   split at h
   ·rename_i hb
    simp only [Option.some.injEq] at h
    subst h
    simp only [Bool.and_eq_true,beq_iff_eq,Option.isNone_iff_eq_none] at hb
    obtain ⟨⟨⟨⟨⟨⟨b0,rfl⟩,b2⟩,b3⟩,b4⟩,b5⟩,b6⟩:=hb
    have:parts= #[]:=Array.eq_empty_of_size_eq_zero b0
    subst this
    exact ⟨a,b,c,rfl,h1,h2,h3,b2,b3,b4,b5,b6⟩
   ·cases h
  ·cases h
 ·cases h
theorem Quf {a:Act} {x:Nat} {v:Value} (h:x<a.tmps.size):(a.put (some x) v).eval (.tmp x)=v:=by
 simp [Act.put,Act.eval,h]
theorem QvZ (Iok:InlOK Z P B W0 inl) {ops:Array Oper} {id:Nat} {Q:Exit→Act→World→Prop} (hp:QnM σ ops.toList=true) (h:inl panF [] [] (fun _ _=>none)=some r) (S:Sim P B W0 d σ a w G) (hP:PanQ (Z r) B d w G Q):
  (Code.region id ops false).wpIn (FR ρ) ν P Q a w:=by
 unfold QnM at hp
 cases hK:σ.K.pan with
 |none=>simp [hK] at hp
 |some t=>
  simp only [hK] at hp
  cases hq:QqM ops.toList with
  |none=>simp [hq] at hp
  |some q=>
   simp only [hq,Bool.and_eq_true,beq_iff_eq,decide_eq_true_eq] at hp
   obtain ⟨⟨rfl,hx⟩,hy⟩:=hp
   obtain ⟨o1,o2,o3,hl,p1,p2,p3,d1,d2,g1,g2,g3⟩:=Quz hq
   have hKp:W0.K.pan=some q.1:=by rw [←S.cfg];exact hK
   have hz:=Iok.pan h q.1 hKp
   have hT:=Iok.panT q.1 hKp
   have hlen:=S.fr.len
   have e0:ops[0]?=some o1:=by rw [←Array.getElem?_toList,hl];rfl
   have e1:ops[1]?=some o2:=by rw [←Array.getElem?_toList,hl];rfl
   have e2:ops[2]?=some o3:=by rw [←Array.getElem?_toList,hl];rfl
   have hsz:ops.size=3:=by rw [←Array.length_toList,hl];rfl
   refine wpIn_region ?_
   rw [hsz]
   show wpOpsIn (FR ρ) ν P ops Q [0,1,2] a w
   refine QkB e0 ?_
   unfold wpO
   rw [if_pos (Qf4 g1)]
   refine ⟨fun _ _=>trivial, ?_⟩
   rw [Oper.semAt_eq _ _ _ (by intro c hc;rw [p1] at hc;cases hc)]
   have r1:(execOp a.eval o1).run P w= .ok (.value (.agg #[])) w:=by simp [execOp,p1,(hT w).1]
   rw [r1,Oper.uponIn_value,d1]
   refine QkB e1 ?_
   unfold wpO
   rw [if_pos (Qf4 g2)]
   refine ⟨fun _ _=>trivial, ?_⟩
   rw [Oper.semAt_eq _ _ _ (by intro c hc;rw [p2] at hc;cases hc)]
   have r2:(execOp (a.put (some q.2.1) (.agg #[])).eval o2).run P w= .ok (.value (.iface q.1 (.agg #[]))) w:=by
    simp only [execOp,p2,Quf (show q.2.1<a.tmps.size by omega)]
    simp [(hT w).2]
   rw [r2,Oper.uponIn_value,d2]
   refine QkB e2 ?_
   unfold wpO
   rw [if_pos (Qf4 g3)]
   refine ⟨fun _ _=>trivial, ?_⟩
   rw [Oper.semAt_eq _ _ _ (by intro c hc;rw [p3] at hc;cases hc)]
   have r3:(execOp ((a.put (some q.2.1) (.agg #[])).put (some q.2.2) (.iface q.1 (.agg #[]))).eval o3).run P w= .halt (.panic (.iface q.1 (.agg #[]))) w:=by
    simp only [execOp,p3,Quf (show q.2.2<(a.put (some q.2.1) (.agg #[])).tmps.size by simp [Act.put];omega)]
    simp [Instr.panic,goPanic]
   rw [r3]
   exact hP _ _ w G hz S.marks ⟨Below.refl _ _,fun b _ hf=>⟨hf,rfl,rfl⟩,fun _ _=>rfl⟩
theorem Qs6 (SE:Qa5 P) (CO:CallOK P B W0 call) (Iok:InlOK Z P B W0 inl) (hmix:P.follows .mixedOrders=true) {rg:Bool} (hrg:rg=true→ρ=none) {ev ev1:Code→(Ex→St→Option β)→St→Option β} (hev:EvOK (Z r) ρ ν P B W0 d r ev) (hev1:∀l,EvOK (Z r) (some l) ν P B W0 (d+1) r ev1):
  EvOK (Z r) ρ ν P B W0 d r (Qco P call inl m d rg ev ev1):=by
 intro c k σ h a w G S Q hQ
 unfold Qco at h
 cases c with
 |skip=>exact wpIn_skip (hQ.go .normal _ _ _ _ S (Keeps.refl _ _ _ _) h)
 |region id ops draw=>
  have hn:∀a' w' G' σ',Sim P B W0 d σ' a' w' G'→Keeps B d w w' G G'→k .normal σ'=some r→Q .normal a' w':=fun a' w' G' σ' S' K' hk=>hQ.go .normal a' w' G' σ' S' K' hk
  cases draw with
  |false=>
   cases hp:QnM σ ops.toList with
   |false=>
    simp only [hp] at h
    refine wpIn_region ?_
    have:=Ql1 (ρ:=ρ) (ν:=ν) SE CO Iok (Q:=Q) ops.toList 0 (by simp) h a w G S hQ.pan hn
    rw [List.range_eq_range']
    simpa using this
   |true=>
    simp only [hp] at h
    exact QvZ Iok hp h S hQ.pan
  |true=>exact QrE SE CO Iok hmix h S hQ.pan hn
 |seq x y=>
  refine wpIn_seq (hev x _ σ h a w G S _ ⟨fun e a' w' G' σ' S' K' hk=> ?_,fun ch a' w' G' hz m K'=>hQ.pan ch a' w' G' hz m K'⟩)
  cases e with
  |normal=>
   obtain ⟨G2,S2,K2⟩:=S'.tidy x
   have hk:ev y k (tidy x σ')=some r:=by
    unfold seqK at hk
    cases hc:(QsS x y||(Qe5 σ'.K 1000002 x||Qe5 σ'.K 1000005 x)) with
    |true=>rw [hc] at hk;simp only [Qah] at hk;exact hk
    |false=>rw [hc] at hk;exact hk
   exact hev y k _ hk a' w' G2 S2 Q (hQ.trans (K'.trans K2))
  |exit id=>exact hQ.go (.exit id) _ _ _ _ S' K' hk
  |ret=>exact hQ.go .ret _ _ _ _ S' K' hk
 |cond c x y=>
  obtain ⟨t,ht,h⟩:=Qag h
  have hc:a.eval c= .bool t:=by
   unfold Qnc at ht
   split at ht
   ·rename_i i
    split at ht
    ·rename_i v hv
     have:=S.fr.rep i
     rw [hv] at this
     simp only [ARep] at this
     rw [Qea ht] at this
     simp only [CRep] at this
     exact this
    ·cases ht
   ·rename_i b;simp only [Option.some.injEq] at ht;subst ht;rfl
   ·cases ht
  have hp:Post (Z r) P B W0 d (QeA x y k) r w G Q:=⟨fun e a' w' G' σ' S' K' hk=>by
   obtain ⟨G2,S2,K2⟩:=S'.clear 0 (Qfe x++Qfe y) [] (.inl rfl)
   exact hQ.go e _ _ _ _ S2 (K'.trans K2) hk,hQ.pan⟩
  refine wpIn_cond hc ?_
  cases t with
  |true=>exact hev x _ σ h a w G S Q hp
  |false=>exact hev y _ σ h a w G S Q hp
 |block id x=>
  refine wpIn_block (hev x _ σ h a w G S _ ⟨fun e a' w' G' σ' S' K' hk=> ?_,fun ch a' w' G' hz m K'=>hQ.pan ch a' w' G' hz m K'⟩)
  cases e with
  |normal=>exact hQ.go .normal _ _ _ _ S' K' hk
  |exit id'=>
   unfold Qam at hk
   show if id'=id then Q .normal a' w' else Q (.exit id') a' w'
   by_cases hid:id'=id
   ·rw [if_pos hid]
    simp only [hid,if_true] at hk
    exact hQ.go .normal _ _ _ _ S' K' hk
   ·rw [if_neg hid]
    simp only [hid,if_false] at hk
    exact hQ.go (.exit id') _ _ _ _ S' K' hk
  |ret=>exact hQ.go .ret _ _ _ _ S' K' hk
 |loop x=>
  obtain ⟨G2,S2,K2⟩:=S.clear d (Qak x++anys σ (Qdh x)) (QlX σ d (Qd1 x)) (.inr rfl)
  have h:hold (Qax ev d (Qak x++anys σ (Qdh x)) (QlX σ d (Qd1 x)) x k m (clear d (Qak x++anys σ (Qdh x)) (QlX σ d (Qd1 x)) σ))=some r:=h
  rw [Qah] at h
  exact wpIn_loop_rounds m (QqP hev m _ h a w G2 S2 Q (hQ.trans K2))
 |exit id=>exact wpIn_exit (hQ.go (.exit id) _ _ _ _ S (Keeps.refl _ _ _ _) h)
 |label l=>exact wpIn_label (hQ.go .normal _ _ _ _ S (Keeps.refl _ _ _ _) h)
 |ret=>exact wpIn_ret (hQ.go .ret _ _ _ _ S (Keeps.refl _ _ _ _) h)
 |scope x=>
  refine QmN (hev x k σ h a w G S _ ⟨fun e a' w' G' σ' S' K' hk=> ?_,fun ch a' w' G' hz m K'=>hQ.pan ch a' w' G' hz m K'⟩)
  cases e with
  |normal=>exact hQ.go .normal _ _ _ _ S' K' hk
  |exit id=>exact hQ.go (.exit id) _ _ _ _ S' K' hk
  |ret=>exact hQ.go .ret _ _ _ _ S' K' hk
 |rangeFunc g ps asg bd=>
  cases rg with
  |false=>cases h
  |true=>
   obtain rfl:=hrg rfl
   have h:chkO σ.K.pan.isNone (optO (Qlo d σ g) (fun q=>optO (σ.K.iter q.1) fun it=>optO (it (q.2.map (·.2))) fun items=>chkO (items.all (·.length==ps.size)) (
    hold (Qbv ev1 (d+1) asg bd ps.toList (σ.tmps.map fun v=>v.copy.scrub (capP q.2)) σ.K items (QcS k (σ.tmps.map fun v=>v.copy.scrub (capP q.2)) σ.K) m 0 (QbD (capP q.2) 0 σ.mem)))))=some r:=h
   obtain ⟨hp0,h⟩:=Qaf h
   obtain ⟨q,hq,h⟩:=Qag h
   obtain ⟨it,hit,h⟩:=Qag h
   obtain ⟨items,hi,h⟩:=Qag h
   obtain ⟨hall,h⟩:=Qaf h
   rw [Qah] at h
   exact QuU Iok hev1 (Iok.nz (by rw [←S.cfg];simpa using hp0) r) hq hit hi hall h S hQ
 |_=>cases h
theorem Qni (SE:Qa5 P) (CO:CallOK P B W0 call) (Iok:InlOK Z P B W0 inl) (hmix:P.follows .mixedOrders=true):∀(j d:Nat) (rg:Bool) (ρ:Option Nat),(rg=true→ρ=none)→EvOK (Z r) ρ ν P B W0 d r (evG P call inl m j d rg)
 |0,_,_,_,_=>fun c k σ h=>by cases h
 |j+1,d,rg,ρ,hrg=>Qs6 SE CO Iok hmix hrg (Qni SE CO Iok hmix j d rg ρ hrg) fun l=>Qni SE CO Iok hmix j (d+1) false (some l) fun h=>by cases h
theorem Qsf (SE:Qa5 P) (CO:CallOK P B W0 call) (Iok:InlOK Z P B W0 inl) (hmix:P.follows .mixedOrders=true) (j:Nat):EvOK (Z r) none ν P B W0 d r (evN P call inl m d j):=Qni SE CO Iok hmix j d true none fun _=>rfl
end Go.Am
namespace Go.Am
open Go.RowKit
variable {P:Program} {B:Nat} {W0:Base} {d:Nat} {σ:St} {a:Act} {w:World} {G:Gh} {β:Type} {call:FuncId→List CV→Option CV}
 {inl:FuncId→List AV→MemT→(AV→MemT→Option β)→Option β} {r:β} {m:Nat} {Z:β→List PanicEntry→Prop}
def Qe4 (P:Program):Prop:=∀(f:FuncId) (fn:Func),P.funcs[f]?=some fn→(fn.name== "runtime.NumGoroutine")=false
theorem Qb1 (N:Qe4 P) {f:FuncId} {fn:Func} {c:Code} (hf:P.funcs[f]?=some fn) (hb:fn.body=some c) (args:Array Value) (w:World):
  (callFunc f args).run P w= .ok (.enter f args) w:=by
 have hn:fn.name≠ "runtime.NumGoroutine" :=by simpa using N f fn hf
 simp [callFunc,hf,hn,hb]
def Pts (P:Program) (w:World) (G:Gh):List AV→List Value→Prop
 | [],xs=>xs= []
 |v::vs,xs=>∃x r,xs=x::r∧(∃p,ARep P w G p v x)∧Pts P w G vs r
theorem Pts.copy:∀{vs:List AV} {xs:List Value},Pts P w G vs xs→ARepL P w G (vs.map AV.copy) xs
 | [],xs,h=>by simp only [Pts] at h;subst h;simp [ARepL]
 |v::vs,xs,h=>by
  simp only [Pts] at h
  obtain ⟨x,r,rfl,⟨p,hp⟩,h⟩:=h
  simp only [List.map_cons,ARepL]
  exact ⟨x,r,rfl,hp.copy,h.copy⟩
theorem Pts.data:∀{vs:List AV} {xs:List Value} {cs:List CV},Pts P w G vs xs→QbF vs=some cs→CRepT w G.hw cs xs
 | [],xs,cs,h,e=>by
  simp only [Pts] at h;subst h
  simp [QbF] at e;subst e;simp [CRepT]
 |v::vs,xs,cs,h,e=>by
  simp only [Pts] at h
  obtain ⟨x,r,rfl,⟨p,hp⟩,h⟩:=h
  cases v with
  |val c=>
   simp only [QbF] at e
   obtain ⟨cs',he,rfl⟩:=Option.map_eq_some_iff.1 e
   simp only [ARep] at hp
   simp only [CRepT]
   exact ⟨x,r,rfl,hp,h.data he⟩
  |lst own n e' l=>
   simp only [QbF] at e
   obtain ⟨cs',he,rfl⟩:=Option.map_eq_some_iff.1 e
   simp only [CRepT]
   exact ⟨x,r,rfl,hp.list,h.data he⟩
  |_=>simp [QbF] at e
theorem Qux {vs:List AV} {xs:List Value} (h:Pts P w G vs xs):ARep P w G .none (Qje vs).copy (if h:xs.toArray.size=1 then xs.toArray[0] else .tuple xs.toArray):=by
 unfold Qje
 split
 ·rename_i v
  simp only [Pts] at h
  obtain ⟨x,r,rfl,⟨p,hp⟩,rfl⟩:=h
  simpa using hp.copy
 ·rename_i hne
  have hl:xs.toArray.size≠1:=by
   intro e
   cases vs with
   |nil=>simp only [Pts] at h;subst h;simp at e
   |cons v vs=>
    simp only [Pts] at h
    obtain ⟨x,r,rfl,_,h⟩:=h
    cases vs with
    |nil=>exact hne v rfl
    |cons v' vs=>
     simp only [Pts] at h
     obtain ⟨x',r',rfl,_⟩:=h
     simp at e
  rw [dif_neg hl]
  split
  ·rename_i cs hcs
   simp only [AV.copy,ARep,CRep]
   exact ⟨xs,rfl,h.data hcs⟩
  ·simp only [AV.copy,ARep]
   exact ⟨xs,rfl,h.copy⟩
theorem Qmo (S:Sim P B W0 d σ a w G):∀{rs:List ResultVar} {vs:List AV},Qei P σ rs=some vs→
  ∃xs:List Value,(rs.mapM (m:=Sem) fun| .tmp t=>pure (a.tmps.getD t undef)| .cell b t=>do loadVar t (←asAddr (a.tmps.getD b undef))).run P w= .ok xs w∧Pts P w G vs xs
 | [],vs,h=>by
  simp [Qei] at h;subst h
  exact ⟨[],by simp,rfl⟩
 |x::rs,vs,h=>by
  unfold Qei at h
  split at h
  ·cases h
  ·rename_i vs' hvs
   obtain ⟨xs,hx,hp⟩:=Qmo S hvs
   have fin:∀{v:AV} {u:Value} {p:Place},vs=v::vs'→ARep P w G p v u→∀{f:ResultVar→Sem Value},(f x).run P w= .ok u w→(rs.mapM (m:=Sem) f).run P w= .ok xs w→∃xs:List Value,((x::rs).mapM (m:=Sem) f).run P w= .ok xs w∧Pts P w G vs xs:=
    fun {v u p} e hv f hr hm=>⟨u::xs,by simp only [List.mapM_cons,Sem.run_bind,hr,hm,Result.andThen_ok,Sem.run_pure],by rw [e];exact ⟨u,xs,rfl,⟨p,hv⟩,hp⟩⟩
   split at h
   ·rename_i t
    simp only [Option.some.injEq] at h
    exact fin h.symm (S.fr.rep t) (by simp) hx
   ·rename_i b t
    split at h
    ·rename_i d' s off hb
     have hptr:=S.fr.rep b
     rw [hb] at hptr
     simp only [ARep] at hptr
     obtain ⟨bl,hbl,hv⟩:=hptr
     split at h
     ·cases h
     ·rename_i hchk
      rw [Bool.and_eq_true] at hchk
      obtain ⟨hu,hall⟩:=hchk
      rw [List.all_eq_true] at hall
      have hall:∀i,i<P.cellsOf t→σ.has (.cell d' s (off+i))=true:=fun i hi=>hall i (by simpa using hi)
      split at h
      ·rename_i hagg
       split at h
       ·rename_i h0
        simp only [Option.some.injEq] at h
        obtain ⟨u,q1,q2,q3⟩:=Qh4 S hbl h0
        refine fin h.symm q3 ?_ hx
        simp [hv,asAddr,loadVar,Qct hu,hagg,q1]
       ·cases h
      ·rename_i hagg
       simp only [Option.some.injEq] at h
       have all:∀i,i<P.cellsOf t→∃u,w.cell? (Qas bl (off+i))=some u∧u.oneCell'=true∧ARep P w G (.cell d' s (off+i)) (Qbm σ.mem d' s (off+i)) u:=
        fun i hi=>Qh4 S hbl (hall i hi)
       have:∃us:List Value,us.length=P.cellsOf t∧∀i,i<P.cellsOf t→∃u,us[i]?=some u∧w.cell? (Qas bl (off+i))=some u∧u.oneCell'=true∧ARep P w G (.cell d' s (off+i)) (Qbm σ.mem d' s (off+i)) u:=by
        refine ⟨(List.range (P.cellsOf t)).map fun i=>(w.cell? (Qas bl (off+i))).getD undef,by simp,fun i hi=> ?_⟩
        obtain ⟨u,q1,q2,q3⟩:=all i hi
        exact ⟨u,by simp [hi,q1],q1,q2,q3⟩
       obtain ⟨us,hul,hus⟩:=this
       have hcells:Cells P w G (fun i=> .cell d' s (off+i)) ((List.range (P.cellsOf t)).map fun i=>Qbm σ.mem d' s (off+i)) us:=by
        refine ⟨by rw [hul];simp,fun i hi=> ?_⟩
        have hi:i<P.cellsOf t:=by simpa using hi
        obtain ⟨u,q1,q2,q3,q4⟩:=hus i hi
        refine ⟨u,q1,q3, ?_⟩
        rw [Qar]
        simp [hi]
        exact q4
       refine fin h.symm (QcZ hcells .none) ?_ hx
       have hload:=run_loadCells_list (P:=P) w (Qas bl off) us (fun j u hj=>by
        have hj':j<us.length:=(List.getElem?_eq_some_iff.1 hj).1
        obtain ⟨u',q1,q2,_⟩:=hus j (by omega)
        rw [Qbi,q2,←q1,hj])
       rw [hul] at hload
       simp [hv,asAddr,loadVar,Qct hu,hagg,Qbz hu,hload]
    ·cases h
theorem QmA (S:Sim P B W0 d σ a w G) {fn:Func} {vs:List AV} (h:Qei P σ fn.results.toList=some vs):
  ∃v,(results fn a.tmps).run P w= .ok v w∧ARep P w G .none (Qje vs).copy v:=by
 obtain ⟨xs,hx,hp⟩:=Qmo S h
 rw [←Array.toList_mapM] at hx
 refine ⟨_, ?_,Qux hp⟩
 unfold results
 simp only [Sem.run_map,Sem.run_bind] at hx⊢
 generalize (Array.mapM (m:=Sem) _ fn.results).run P w=R at hx⊢
 cases R with
 |ok x w'=>
  simp only [Result.andThen_ok,Result.ok.injEq] at hx
  obtain ⟨h3,rfl⟩:=hx
  subst h3
  simp
 |halt x w'=>simp [Result.andThen] at hx
theorem ARepL.length:∀{vs:List AV} {xs:List Value},ARepL P w G vs xs→xs.length=vs.length
 | [],xs,h=>by simp only [ARepL] at h;simp [h]
 |v::vs,xs,h=>by
  simp only [ARepL] at h
  obtain ⟨x,r,rfl,_,h⟩:=h
  simp [ARepL.length h]
theorem ARepL.getD:∀{vs:List AV} {xs:List Value},ARepL P w G vs xs→∀i,i<vs.length→ARep P w G .none (nthD .any vs i) (xs.getD i undef)
 | [],xs,h,i,hi=>by simp at hi
 |v::vs,xs,h,i,hi=>by
  simp only [ARepL] at h
  obtain ⟨x,r,rfl,hv,h⟩:=h
  cases i with
  |zero=>simpa [nthD] using hv
  |succ i=>simpa [nthD] using ARepL.getD h i (by simpa using hi)
theorem AV.copy_copy (v:AV):v.copy.copy=v.copy:=by
 cases v with
 |lst own n e l=>cases own<;>rfl
 |_=>rfl
theorem AV.copy_scrub {p:Nat→Nat→Bool} (v:AV):(v.copy.scrub p).copy=v.copy.scrub p:=by
 unfold AV.scrub
 split
 ·rfl
 ·exact v.copy_copy
theorem Qpq {f:FuncId} {vs:List AV} {mem:MemT} {k:AV→MemT→Option β} {K:Cfg} (h:QaW P K call m inl f vs mem k=some r):
  ∃fn c,P.funcs[f]?=some fn∧fn.body=some c∧evN P call inl m mem.length 1000 c (QlD P (K.lift f) fn.results.toList mem.length k) {tmps:=vs++List.replicate (fn.ntmps-vs.length) .any,mem:=mem++ [List.replicate fn.ntmps none],K:=K}=some r:=by
 unfold QaW at h
 split at h
 ·rename_i fn hf
  split at h
  ·rename_i c hb
   exact ⟨fn,c,hf,hb,h⟩
  ·cases h
 ·cases h
theorem Keeps.unlo {w':World} {G2:Gh} {n:Nat} (K:Keeps B d w w' (G.setLo d n) G2):Keeps B d w w' G (G2.setLo d (G.lo d)):=by
 refine ⟨K.keep,K.own,K.blk,K.below,K.low,K.rest,fun d' hd=> ?_⟩
 by_cases e:d'=d
 ·subst e;simp [Gh.setLo]
 ·have:=K.lo d' hd
  simp only [Gh.setLo,if_neg e] at this⊢
  exact this
theorem Mk.leave {ν:Nat} {ds:List Deferred} (m:Mk d w G ds) {w0:World} {G0:Gh} (K:KeepsP B d w0 w (G0.setLo d w0.heap.size) G) (hB:B≤w0.heap.size) {fn:Func} {tm:Array Value} {R:Ending→World→Prop} {ch:List PanicEntry}
  (h:∀wE G',KeepsP B d w0 wE G0 G'→R (.panicked ch) wE):LeavesInM (FR none) ν P fn tm R ds (.panicking ch) w:=by
 obtain ⟨m0,Ds,m1,m2,m3⟩:=m
 have hlo:G.lo d=w0.heap.size:=by rw [K.lo d (Nat.le_refl _)];simp [Gh.setLo]
 rw [m1]
 refine QkM (by simp) Ds w m2 (fun D hD=>(m3 D hD).2.1) fun wE g=> ?_
 have hX:∀b,b∈Ds→w0.heap.size≤b:=fun b hb=>by have:=(m3 b hb).1;omega
 show R (.panicked ch) wE
 refine h wE (G.setLo d (G0.lo d)) ⟨K.below.trans ⟨g.os,g.tape,g.output,g.size,fun k hk=>g.block k (Nat.lt_of_lt_of_le hk (Nat.le_trans hB K.below.size)) fun hx=>by have:=hX k hx;omega⟩,fun b hb hf=> ?_,fun d' hd=> ?_⟩
 ·obtain ⟨q1,q2,q3⟩:=K.rest b hb hf
  exact ⟨q1,q2,(g.block b (Nat.lt_of_lt_of_le hb K.below.size) fun hx=>by have:=hX b hx;omega).trans q3⟩
 ·by_cases e:d'=d
  ·subst e;simp [Gh.setLo]
  ·have:=K.lo d' hd
   simp only [Gh.setLo,if_neg e] at this⊢
   exact this
theorem Sim.leave {ν:Nat} (S:Sim P B W0 d σ a w G) {w0:World} {G0:Gh} (K:Keeps B d w0 w (G0.setLo d w0.heap.size) G) (hB:B≤w0.heap.size) {fn:Func} {R:Ending→World→Prop}
  (h:∀wE,Sim P B W0 d σ {a with defers:= []} wE G→Keeps B d w0 wE (G0.setLo d w0.heap.size) G→LeavesIn (FR none) ν P fn a.tmps R [] .returning wE):LeavesInM (FR none) ν P fn a.tmps R a.defers .returning w:=by
 obtain ⟨m0,Ds,m1,m2,m3⟩:=S.marks
 have hlo:G.lo d=w0.heap.size:=by rw [K.lo d (Nat.le_refl _)];simp [Gh.setLo]
 rw [m1]
 refine QkM (by simp) Ds w m2 (fun D hD=>(m3 D hD).2.1) fun wE g=> ?_
 have off:Off B G (· ∈Ds):=fun b hb=>by
  obtain ⟨q0,_,q2,q3⟩:=m3 b hb
  exact ⟨q2,q3,by omega⟩
 have N:=Qja S.mem g off
 exact h wE ⟨S.mem.growX g off,S.depth,⟨S.fr.len,fun i=>ARep.same (N _) (N _) _ (S.fr.rep i)⟩,S.cfg,Mk.nil (Nat.le_trans m0 g.size)⟩ (K.growX S.mem g off fun b hb hlt=>by
  have:=(m3 b hb).1;omega)
open Classical in
noncomputable def Qep (G:Gh) (m:MemT) (D b:Nat):Nat:=
 if h:∃q:Nat×TypeId×List (List CV),G.blk D q.1=some b∧box? m D q.1=some [.row q.2.1 q.2.2] then h.choose.2.2.flatten.length else G.hw b
noncomputable def Gh.slm (G:Gh) (m:MemT) (D:Nat):Gh:={G with hw:=Qep G m D}
theorem QvD {m:MemT} (M:Mem P B W0 w G m) {D s b:Nat} {e:TypeId} {l:List (List CV)} (hb:G.blk D s=some b) (hx:box? m D s=some [.row e l]):Qep G m D b=l.flatten.length:=by
 have h:∃q:Nat×TypeId×List (List CV),G.blk D q.1=some b∧box? m D q.1=some [.row q.2.1 q.2.2]:=⟨(s,e,l),hb,hx⟩
 unfold Qep
 rw [dif_pos h]
 obtain ⟨h1,h2⟩:=h.choose_spec
 have:=(M.inj _ _ _ _ _ h1 hb).2
 rw [this,hx] at h2
 simp only [Option.some.injEq,List.cons.injEq,AV.row.injEq,and_true] at h2
 rw [←h2.2]
theorem QeZ {m:MemT} {D b:Nat} (h:∀s,G.blk D s≠some b):Qep G m D b=G.hw b:=by
 unfold Qep
 rw [dif_neg]
 rintro ⟨q,h1,_⟩
 exact h _ h1
theorem Qw1 {m:MemT} (M:Mem P B W0 w G m) (D b:Nat):G.hw b≤Qep G m D b:=by
 unfold Qep
 split
 ·rename_i h
  obtain ⟨h1,_⟩:=h.choose_spec
  obtain ⟨_,_,_,_,_,R⟩:=M.blk_box h1
  rw [R.hw];omega
 ·exact Nat.le_refl _
theorem QiB {m:MemT} (M:Mem P B W0 w G m) (D:Nat):Keep w w G.hw (G.slm m D).hw:=⟨fun b=>Qw1 M D b,fun _ _ _=>rfl,fun _ _ h=>h⟩
theorem QxY {m:MemT} (M:Mem P B W0 w G m) (D:Nat) {b:Nat} {p:Place} (hb:G.own b=some p):Qep G m D b=G.hw b:=by
 refine QeZ fun s hs=> ?_
 obtain ⟨_,_,_,_,_,R⟩:=M.blk_box hs
 rw [R.own] at hb
 cases hb
theorem Qm5 {m:MemT} (M:Mem P B W0 w G m) (D:Nat) (p:Place):Same p w w G (G.slm m D):=
 ⟨QiB M D,fun _ _ _ h=>h,fun _ hb=>⟨hb,QxY M D hb,rfl⟩⟩
theorem ARep.slm {m:MemT} (M:Mem P B W0 w G m) (D:Nat) {p:Place} {v:AV} {x:Value} (h:ARep P w G p v x):ARep P w (G.slm m D) p v x:=ARep.same (Qm5 M D p) (Qm5 M D _) v h
theorem ARepL.cells:∀{cs:List AV} {us:List Value},ARepL P w G cs us→us.all Value.oneCell'=true→Cells P w G (fun _=> .none) cs us
 | [],us,h,_=>by simp only [ARepL] at h;subst h;exact Cells.nil
 |c::cs,us,h,h1=>by
  simp only [ARepL] at h
  obtain ⟨v,s,rfl,h3,h4⟩:=h
  simp only [List.all_cons,Bool.and_eq_true] at h1
  exact Cells.cons h1.1 h3 (ARepL.cells h4 h1.2)
theorem ARepL.pts:∀{cs:List AV} {us:List Value},ARepL P w G cs us→Pts P w G cs us
 | [],us,h=>by simp only [ARepL] at h;simpa only [Pts] using h
 |c::cs,us,h=>by
  simp only [ARepL] at h
  obtain ⟨v,s,rfl,h3,h4⟩:=h
  simp only [Pts]
  exact ⟨v,s,rfl,⟨_,h3⟩,h4.pts⟩
theorem Quy {cs:List AV} {us:List Value} (h:ARepL P w G cs us):ARep P w G .none (Qvs cs) (.tuple us.toArray):=by
 unfold Qvs
 split
 ·rename_i c hc
  simp only [ARep,CRep]
  exact ⟨us,rfl,h.pts.data hc⟩
 ·simp only [ARep]
  exact ⟨us,rfl,h.pts.copy⟩
mutual
theorem QrL {m:MemT} (M:Mem P B W0 w G m) (D:Nat):∀(v:AV) {x:Value} {k:AV→Option β} {r:β},ARep P w G .none v x→frz m D v k=some r→∃v',k v'=some r∧ARep P w (G.slm m D) .none v' x
 | .rsl e d' s off len cap,x,k,r,hx,h=>by
  unfold frz at h
  cases hd:d'==D with
  |false=>simp only [hd] at h;exact ⟨_,h,hx.slm M D⟩
  |true=>
   simp only [hd] at h
   have hd:=eq_of_beq hd
   subst hd
   have key:∀v,QbV m d' s=v→(match v with| .row e' l=>chkO (e' !=mapE&&e'==e&&decide (off+len≤l.length)) (k (.val (.list false ((l.drop off).take len))))|_=>k .any)=some r→
     ∃v',k v'=some r∧ARep P w (G.slm m d') .none v' x:=by
    intro v hv h
    cases v with
    |row e1 l=>
     simp only at h
     obtain ⟨h1,h2⟩:=Qaf h
     simp only [Bool.and_eq_true,beq_iff_eq,decide_eq_true_eq,bne_iff_ne,ne_eq] at h1
     obtain ⟨⟨hme,rfl⟩,hle⟩:=h1
     have hbx:box? m d' s=some [.row e1 l]:=by
      unfold QbV at hv
      split at hv
      ·rename_i hbx;cases hv;exact hbx
      ·cases hv
     refine ⟨_,h2, ?_⟩
     simp only [ARep] at hx⊢
     obtain ⟨b,ad,c,q,q1,q2,q3,q4,q5,q6,q7⟩:=hx
     have RR:=M.row q1 hbx hme
     have hlen:((l.drop off).take len).length=len:=by simp;omega
     have hw:(G.slm m d').hw b=l.length*P.cellsOf e1:=by
      show Qep G m d' b=_
      rw [QvD M q1 hbx,Qc0 RR.es]
     have hpart:CRepLL w (G.slm m d').hw b (off*P.cellsOf e1) ((l.drop off).take len):=by
      have R2:RowRep P w (G.slm m d') e1 l b:=⟨RR.es,fun i c hi j z hj=>by
       obtain ⟨u,r1,r2,r3⟩:=RR.rep i c hi j z hj
       exact ⟨u,r1,r2,CRep.keep (QiB M d') z r3⟩⟩
      have:=R2.crepLL.part R2.es (lo:=off) (hi:=off+len) (by omega) hle
      rw [Nat.zero_add] at this
      have e1:(l.take (off+len)).drop off=(l.drop off).take len:=by rw [List.take_drop]
      rw [e1] at this
      exact this
     simp only [CRep]
     refine .inr ⟨trivial,b,off*P.cellsOf e1,c,P.cellsOf e1,⟨ad,by rw [hlen];exact q2,fun hn=>q5 ?_⟩,by rw [hlen];omega,fun c hc=>RR.es c (List.mem_of_mem_drop (List.mem_of_mem_take hc)), ?_,hpart⟩
     ·rcases hn with hn|hn
      ·cases hn
      ·rw [hlen] at hn;omega
     ·rw [hw,hlen,←Nat.add_mul]
      exact Nat.mul_le_mul_right _ hle
    |_=>exact ⟨_,h,by simp [ARep]⟩
   exact key _ rfl h
 | .agg cs,x,k,r,hx,h=>by
  unfold frz at h
  simp only [ARep] at hx
  obtain ⟨us,rfl,h1,h2⟩:=hx
  obtain ⟨cs',q1,q2⟩:=Qjf M D cs h1 h
  exact ⟨_,q1,QcZ (q2.cells h2) _⟩
 | .tup cs,x,k,r,hx,h=>by
  unfold frz at h
  simp only [ARep] at hx
  obtain ⟨us,rfl,h1⟩:=hx
  obtain ⟨cs',q1,q2⟩:=Qjf M D cs h1 h
  exact ⟨_,q1,Quy q2⟩
 | .any,_,_,_,hx,h=>⟨_,h,hx.slm M D⟩
 | .undef,_,_,_,hx,h=>⟨_,h,hx.slm M D⟩
 | .val _,_,_,_,hx,h=>⟨_,h,hx.slm M D⟩
 | .lst ..,_,_,_,hx,h=>⟨_,h,hx.slm M D⟩
 | .ptr ..,_,_,_,hx,h=>⟨_,h,hx.slm M D⟩
 | .cptr ..,_,_,_,hx,h=>⟨_,h,hx.slm M D⟩
 | .clo ..,_,_,_,hx,h=>⟨_,h,hx.slm M D⟩
 | .siter ..,_,_,_,hx,h=>⟨_,h,hx.slm M D⟩
 | .bld ..,_,_,_,hx,h=>⟨_,h,hx.slm M D⟩
 | .row ..,_,_,_,hx,h=>⟨_,h,hx.slm M D⟩
 | .rptr ..,_,_,_,hx,h=>⟨_,h,hx.slm M D⟩
 | .mpp ..,_,_,_,hx,h=>⟨_,h,hx.slm M D⟩
theorem Qjf {m:MemT} (M:Mem P B W0 w G m) (D:Nat):∀(l:List AV) {xs:List Value} {k:List AV→Option β} {r:β},ARepL P w G l xs→frzL m D l k=some r→∃l',k l'=some r∧ARepL P w (G.slm m D) l' xs
 | [],xs,k,r,hx,h=>by simp only [ARepL] at hx;exact ⟨_,h,by simpa only [ARepL] using hx⟩
 |v::l,xs,k,r,hx,h=>by
  simp only [ARepL] at hx
  obtain ⟨x,s,rfl,h1,h2⟩:=hx
  unfold frzL at h
  obtain ⟨v',q1,q2⟩:=QrL M D v h1 h
  obtain ⟨l',q3,q4⟩:=Qjf M D l h2 q1
  exact ⟨_,q3,by simp only [ARepL];exact ⟨x,s,rfl,q2,q4⟩⟩
end
theorem Mem.dropSeal {mem mem':MemT} (M:Mem P B W0 w G mem) {D:Nat} (h:∀d s,box? mem' d s=Qbp (fun d' _=>d'==D) mem d s):Mem P B W0 w ((G.slm mem D).drop fun d' _=>d'==D) mem':=by
 refine ⟨M.below,M.base,M.own,fun b hb=> ?_,fun d s hb=> ?_,fun d s cs hb=> ?_,fun d s d' s' b h1 h2=> ?_,M.glob.keep (QiB M D)⟩
 ·show Qep G mem D b=0
  rw [QeZ fun s hs=> ?_]
  ·exact M.hw b hb
  ·obtain ⟨_,_,_,_,_,R⟩:=M.blk_box hs
   have:=R.lt
   omega
 ·show (if d==D then none else G.blk d s)=none
  rw [h] at hb
  unfold Qbp at hb
  by_cases hp:(d==D)=true
  ·rw [if_pos hp]
  ·rw [if_neg hp] at hb⊢
   exact M.blk d s (by simpa using hb)
 ·rw [h] at hb
  unfold Qbp at hb
  by_cases hp:(d==D)=true
  ·rw [if_pos hp] at hb;cases hb
  ·rw [if_neg hp] at hb
   obtain ⟨c,hc,rfl⟩:=Option.map_eq_some_iff.1 hb
   obtain ⟨b,vs,T,fz,R⟩:=M.box d s c hc
   refine ⟨b,vs,T,fz,by show (if d==D then none else G.blk d s)=some b;rw [if_neg hp];exact R.blk,R.lo,QlA R.heap,R.free, ?_,R.own,R.rep.scrub fun o v x h=>(h.slm M D).scrub (by intro d' s' o' h;cases h;simpa using hp)⟩
   show Qep G mem D b=0
   rw [QeZ fun s' hs'=> ?_]
   ·exact R.hw
   ·have:=(M.inj _ _ _ _ _ hs' R.blk).1
    rw [←this] at hp;simp at hp
 ·have h1:(if d==D then none else G.blk d s)=some b:=h1
  have h2:(if d'==D then none else G.blk d' s')=some b:=h2
  split at h1
  ·cases h1
  ·split at h2
   ·cases h2
   ·exact M.inj d s d' s' b h1 h2
theorem Keeps.dropSeal {mem:MemT} (M:Mem P B W0 w G mem) (D:Nat):Keeps B D w w G ((G.slm mem D).drop fun d' _=>d'==D):=by
 refine ⟨QiB M D,fun b d' i _ hb=> ?_,fun d' s b hd hb=> ?_,Below.refl _ _,fun b hb=> ?_,fun b _ hf=> ?_,fun _ _=>rfl⟩
 ·obtain ⟨q1,q2,q3⟩:=(Qm5 M D _).own b hb
  exact ⟨q1,q2,q3⟩
 ·show (if d'==D then none else G.blk d' s)=some b
  rw [if_neg (by simp;omega)]
  exact hb
 ·show Qep G mem D b=G.hw b
  refine QeZ fun s hs=> ?_
  obtain ⟨_,_,_,_,_,R⟩:=M.blk_box hs
  have:=R.lo
  omega
 ·refine ⟨⟨hf.1,fun d' s hb=> ?_⟩,QeZ fun s=>hf.2 D s,rfl⟩
  simp only [Gh.drop] at hb
  split at hb
  ·cases hb
  ·exact hf.2 d' s hb
theorem QkQ (SE:Qa5 P) (N:Qe4 P) (CO:CallOK P B W0 call) (hmix:P.follows .mixedOrders=true) (Iok:InlOK Z P B W0 inl) {f:FuncId} {vs:List AV} {mem:MemT} {k:AV→MemT→Option β} {r:β} (h:QaW P W0.K call m inl f vs mem k=some r)
  (w:World) (G:Gh) (D:Nat) (M:Mem P B W0 w G mem) (hD:mem.length=D) (xs:List Value) (hx:ARepL P w G vs xs):
  (∀w',(callFunc f xs.toArray).run P w'= .ok (.enter f xs.toArray) w')∧Calls P f xs.toArray w (Qn0 Z P B W0 k r w G D):=by
 subst hD
 obtain ⟨fn,c,hf,hb,h⟩:=Qpq h
 refine ⟨fun w'=>Qb1 N hf hb _ w',callsIn_wide.1 (callsIn_of_wp_marks (F:=FR none) (n:=0) hf hb trivial ?_)⟩
 have hlen:=hx.length
 have S:Sim P B W0 mem.length {tmps:=vs++List.replicate (fn.ntmps-vs.length) .any,mem:=mem++ [List.replicate fn.ntmps none],K:=W0.K} {tmps:=xs.toArray++Array.replicate (fn.ntmps-xs.toArray.size) undef,defers:= []} w (G.setLo mem.length w.heap.size):=by
  refine ⟨(M.setLo _ _).congr (box?_append mem _),by simp,⟨by simp [hlen],fun i=> ?_⟩,rfl,Mk.nil (by simp [Gh.setLo])⟩
  by_cases hi:i<vs.length
  ·have e1:nthD .any (vs++List.replicate (fn.ntmps-vs.length) AV.any) i=nthD .any vs i:=by
    rw [Qar,Qar,List.getElem?_append_left hi]
   have e2:(xs.toArray++Array.replicate (fn.ntmps-xs.toArray.size) undef).getD i undef=xs.getD i undef:=by
    rw [Array.getD_eq_getD_getElem?,Array.getElem?_append_left (by simp;omega)]
    simp
   rw [e1,e2]
   exact ARep.ofNone (M.setLo mem.length w.heap.size).noNone (ARep.same (Qcg w G _ _ _) (Qcg w G _ _ _) _ (hx.getD i hi))
  ·have e1:nthD .any (vs++List.replicate (fn.ntmps-vs.length) AV.any) i= .any:=by
    rw [Qar,List.getElem?_append_right (by omega),List.getElem?_replicate]
    split<;>rfl
   rw [e1]
   simp [ARep]
 refine Qsf (ν:=0) SE CO Iok hmix 1000 c _ _ h _ w _ S _ ⟨fun e a' w' G' σ' S' K' hk=> ?_,fun ch a' w' G' hz hm K'=>hm.leave K' M.base fun wE G2 K2=> .inr ⟨ch,G2,rfl,hz,K2⟩⟩
 have fin:(optO (Qei P σ' fn.results.toList) fun vs=>frz σ'.mem mem.length (Qje vs).copy fun v=>k (v.copy.scrub fun d' _=>d'==mem.length) (Qaw (fun d' _=>d'==mem.length) (σ'.mem.take mem.length)))=some r→
   LeavesInM (FR none) 0 P fn a'.tmps (Qn0 Z P B W0 k r w G mem.length) a'.defers .returning w':=by
  intro h
  obtain ⟨rv,hr,h⟩:=Qag h
  refine S'.leave K' M.base fun wE SE KE=> ?_
  obtain ⟨v,h1,h2⟩:=QmA SE hr
  have hl:=SE.depth
  obtain ⟨v',h3,h4⟩:=QrL SE.mem mem.length _ h2 h
  refine ⟨v,h1, .inl ⟨_,v,_,((G'.slm σ'.mem mem.length).drop fun d' _=>d'==mem.length).setLo mem.length (G.lo mem.length),rfl,h3,(SE.mem.dropSeal fun d s=> ?_).setLo _ _,by simp [Qaw];omega,ARep.same (Qcg _ _ _ _ _) (Qcg _ _ _ _ _) _ (h4.copy.scrub (by intro d s o h;cases h)),AV.copy_scrub _,(KE.trans (Keeps.dropSeal SE.mem mem.length)).unlo⟩⟩
  rw [box?_scrub]
  unfold Qbp
  by_cases e:d=mem.length
  ·subst e
   have:box? (σ'.mem.take mem.length) mem.length s=none:=by
    unfold box?
    rw [Qar [],List.getElem?_eq_none (by simp;omega)]
    rfl
   rw [this]
   simp
  ·have:box? (σ'.mem.take mem.length) d s=box? σ'.mem d s:=by
    unfold box?
    rw [Qar [],Qar []]
    by_cases hlt:d<mem.length
    ·rw [List.getElem?_take,if_pos hlt]
    ·rw [List.getElem?_eq_none (by simp;omega),List.getElem?_eq_none (by omega)]
   rw [this]
   simp [e]
 unfold QlD at hk
 cases hlift:W0.K.lift f with
 |false=>
  rw [hlift] at hk
  cases e with
  |exit id=>cases hk
  |normal=>exact fin hk
  |ret=>exact fin hk
 |true=>
  rw [hlift] at hk
  simp only at hk
  cases hd:mem.length with
  |zero=>rw [hd] at hk;cases e<;>cases hk
  |succ d=>
   rw [hd] at hk
   have fin2:(optO (Qei P σ' fn.results.toList) fun vs=>k ((Qje vs).copy.ren (renP (d+1) (nthD [] σ'.mem d).length (Qa7 0 (nthD [] σ'.mem (d+1))))) (Qes (d+1) σ'.mem (Qa7 0 (nthD [] σ'.mem (d+1)))))=some r→
     LeavesInM (FR none) 0 P fn a'.tmps (Qn0 Z P B W0 k r w G (d+1)) a'.defers .returning w':=by
    intro h
    obtain ⟨rv,hr,h⟩:=Qag h
    refine S'.leave K' M.base fun wE SE KE=> ?_
    obtain ⟨v,h1,h2⟩:=QmA SE hr
    have hl:σ'.mem.length=d+2:=by have:=SE.depth;omega
    have H:=Qz0 (d:=d) SE.mem hl
    refine ⟨v,h1, .inl ⟨_,v,_,_,rfl,h,(SE.mem.lift hl H).setLo (d+1) (G.lo (d+1)),Qss hl, ?_,AV.copy_ren _, ?_⟩⟩
    ·have:=ARep.ren H _ h2
     rw [Qtp] at this
     exact ARep.same (Qcg _ _ _ _ _) (Qcg _ _ _ _ _) _ this
    ·rw [hd] at KE
     exact (KE.trans (Keeps.lift H)).unlo
   cases e with
   |exit id=>cases hk
   |normal=>exact fin2 hk
   |ret=>exact fin2 hk
theorem Qmw (SE:Qa5 P) (N:Qe4 P) (CO:CallOK P B W0 call) (hmix:P.follows .mixedOrders=true) (Iok:InlOK Z P B W0 inl):InlR Z P B W0 (QaW P W0.K call m inl):=
 ⟨fun _ h w G D M hD xs hx=>QkQ SE N CO hmix Iok h w G D M hD xs hx,QuJ Iok.lin,Iok.iter,Iok.nz⟩
def Qu9 (P:Program) (B:Nat) (W0:Base):Prop:=
 ∀f g,W0.K.hook f=some g→∀vs mem l q b v mem',g vs mem=some (l,q)→bytesOf l=some b→q b=(v,mem')→∀w G D,Mem P B W0 w G mem→mem.length=D→∀xs:List Value,ARepL P w G vs xs→
  (∀w',(callFunc f xs.toArray).run P w'= .ok (.enter f xs.toArray) w')∧
  Calls P f xs.toArray w fun e w'=>∃x G',e= .returned x∧Mem P B W0 w' G' mem'∧mem'.length=D∧ARep P w' G' .none v x∧v.copy=v∧Keeps B D w w' G G'
def Qjx (P:Program) (B:Nat) (W0:Base):Prop:=Qu9 P B W0∧Quc P B W0
theorem Qnm (H:Qjx P B W0) (Iok:InlR Z P B W0 inl):InlR Z P B W0 (Qbl W0.K inl):=by
 refine ⟨fun {f vs mem k r} hne h w G D M hD xs hx=> ?_,QvB Iok.lin,Iok.iter,Iok.nz⟩
 unfold Qbl at h
 split at h
 ·rename_i g hg
  obtain ⟨⟨l,q⟩,hp,h⟩:=Qag h
  obtain ⟨b,hb,h⟩:=Qag h
  obtain ⟨h1,h2⟩:=H.1 f g hg vs mem l q b (q b).1 (q b).2 hp hb rfl w G D M hD xs hx
  exact ⟨h1,h2.mono fun e w' ⟨x,G',q1,q2,q3,q4,q5,q6⟩=> .inl ⟨_,x,_,G',q1,h,q2,q3,q4,q5,q6⟩⟩
 ·exact Iok.run hne h w G D M hD xs hx
theorem InlR.ok (Iok:InlR Z P B W0 inl) (hp:W0.K.pan=none):InlOK Z P B W0 inl:=⟨Iok,fun _ t ht=>(by rw [hp] at ht;cases ht),fun t ht=>(by rw [hp] at ht;cases ht)⟩
def noZ {β:Type} (_:β) (_:List PanicEntry):Prop:=False
theorem QrK (SE:Qa5 P) (N:Qe4 P) (CO:CallOK P B W0 call) (H:Qjx P B W0) (hmix:P.follows .mixedOrders=true) (hp:W0.K.pan=none:=by rfl):∀dp:Nat,InlOK (β:=β) noZ P B W0 (evF P W0.K call m dp)
 |0=>InlR.ok ⟨(fun _ h=>by cases h),(fun _ _ _ _ _ h=>by cases h),H.2,fun _ _ _ h=>h⟩ hp
 |dp+1=>(Qnm H (Qmw SE N CO hmix (QrK SE N CO H hmix hp dp))).ok hp
def QnT (P:Program) (gl:Nat→Option (List CV)) (T:World→Prop) (lib:FuncId→Option (List CV→Option CV)):Prop:=
 ∀f s,lib f=some s→∀args r,s args=some r→(∀vs w,(callFunc f vs).run P w= .ok (.enter f vs) w)∧
  ∀(w:World) (h:Hw) (vs:List Value),T w→(∀b,w.heap.size≤b→h b=0)→GlobOK gl w h→CRepT w h args vs→
   Calls P f vs.toArray w fun e w'=>∃v h',e= .returned v∧Below w.heap.size w w'∧(∀b,b<w.heap.size→h' b=h b)∧(∀b,w'.heap.size≤b→h' b=0)∧CRep w' h' r v
theorem CRepT.vals:∀{cs:List CV} {xs:List Value},CRepT w G.hw cs xs→ARepL P w G (cs.map .val) xs
 | [],xs,h=>by simp only [CRepT] at h;subst h;simp [ARepL]
 |c::cs,xs,h=>by
  simp only [CRepT] at h
  obtain ⟨x,r,rfl,h1,h2⟩:=h
  simp only [List.map_cons,ARepL,ARep]
  exact ⟨x,r,rfl,h1,CRepT.vals h2⟩
theorem Qwn {v:AV} {c:CV} {x:Value} {p:Place} (h:v.out=some c) (hv:ARep P w G p v x):CRep w G.hw c x:=by
 cases v with
 |val c'=>simp only [AV.out,Option.some.injEq] at h;subst h;simpa only [ARep] using hv
 |lst own n e l=>simp only [AV.out,Option.some.injEq] at h;subst h;exact hv.list
 |_=>simp [AV.out] at h
theorem Qjd {v:AV} {c:CV} {x:Value} {p:Place} {t:Option TypeId} (h:v.outT t=some c) (hv:ARep P w G p v x):CRep w G.hw c x∧∀e,t=some e→Tight P w G.hw e c x:=by
 unfold AV.outT at h
 cases t with
 |none=>exact ⟨Qwn h hv,fun e he=>by cases he⟩
 |some e=>
  cases v with
  |lst own n e' l=>
   cases own with
   |true=>simp at h
   |false=>
    simp only at h
    split at h
    ·rename_i he
     simp only [beq_iff_eq] at he
     subst he
     simp only [Option.some.injEq] at h
     subst h
     refine ⟨hv.list,fun e2 he2=> ?_⟩
     obtain rfl:=Option.some.inj he2
     refine ⟨n,l,rfl, ?_⟩
     simp only [ARep] at hv⊢
     rcases hv with hv|⟨h1,b,off,cap,h2,h3,h4,h5,h6,h7⟩
     ·exact .inl hv
     ·refine .inr ⟨h1,b,off,cap,h2,h3,h4,h5,h6, ?_⟩
      rcases h7 with h7|⟨h7,_⟩
      ·exact .inl h7
      ·cases h7
    ·cases h
  |_=>simp at h
theorem QnC (SE:Qa5 P) (N:Qe4 P) (CO:CallOK P B W0 call) (hmix:P.follows .mixedOrders=true) {inl:FuncId→List AV→MemT→(AV→MemT→Option CV)→Option CV} (Iok:InlOK noZ P B W0 inl) {f:FuncId} {vs:List AV} {e:TypeId} {r:CV}
  (h:Qin P W0.K call m inl f vs e=some r) (w:World) (G:Gh) (M:Mem P B W0 w G []) (xs:List Value) (hx:ARepL P w G vs xs) (hB:B=w.heap.size):
  (∀w',(callFunc f xs.toArray).run P w'= .ok (.enter f xs.toArray) w')∧
  Calls P f xs.toArray w fun en w'=>∃x G',en= .returned x∧Mem P B W0 w' G' []∧CRep w' G'.hw r x∧Keeps B 0 w w' G G'∧Qvw P w w' G'.hw e r x:=by
 unfold Qin at h
 split at h
 ·rename_i fn hf
  split at h
  ·rename_i c hb
   refine ⟨fun w'=>Qb1 N hf hb _ w',callsIn_wide.1 (callsIn_of_wp_marks (F:=FR none) (n:=0) hf hb trivial ?_)⟩
   have hlen:=hx.length
   have S:Sim P B W0 0 {tmps:=vs++List.replicate (fn.ntmps-vs.length) .any,mem:= [List.replicate fn.ntmps none],K:=W0.K} {tmps:=xs.toArray++Array.replicate (fn.ntmps-xs.toArray.size) undef,defers:= []} w (G.setLo 0 w.heap.size):=by
    refine ⟨(M.setLo _ _).congr (by have:=box?_append [] fn.ntmps;simpa using this),by simp,⟨by simp [hlen],fun i=> ?_⟩,rfl,Mk.nil (by simp [Gh.setLo])⟩
    by_cases hi:i<vs.length
    ·have e1:nthD .any (vs++List.replicate (fn.ntmps-vs.length) AV.any) i=nthD .any vs i:=by
      rw [Qar,Qar,List.getElem?_append_left hi]
     have e2:(xs.toArray++Array.replicate (fn.ntmps-xs.toArray.size) undef).getD i undef=xs.getD i undef:=by
      rw [Array.getD_eq_getD_getElem?,Array.getElem?_append_left (by simp;omega)]
      simp
     rw [e1,e2]
     exact ARep.ofNone (M.setLo 0 w.heap.size).noNone (ARep.same (Qcg w G _ _ _) (Qcg w G _ _ _) _ (hx.getD i hi))
    ·have e1:nthD .any (vs++List.replicate (fn.ntmps-vs.length) AV.any) i= .any:=by
      rw [Qar,List.getElem?_append_right (by omega),List.getElem?_replicate]
      split<;>rfl
     rw [e1]
     simp [ARep]
   refine Qsf (ν:=0) SE CO Iok hmix 1000 c _ _ h _ w _ S _ ⟨fun en a' wM G' σ' SM KM hk=> ?_,fun ch a' w' G' hz _ _=>absurd hz id⟩
   have fin:Qqf fn.results.toList e .ret σ'=some r→
     LeavesInM (FR none) 0 P fn a'.tmps (fun en w'=>∃x G',en= .returned x∧Mem P B W0 w' G' []∧CRep w' G'.hw r x∧Keeps B 0 w w' G G'∧Qvw P w w' G'.hw e r x) a'.defers .returning wM:=by
    intro h
    refine SM.leave KM M.base fun w' S' K'=> ?_
    unfold Qqf at h
    simp only at h
    split at h
    ·rename_i t hres
     split at h
     ·rename_i n e' l hv
      obtain ⟨he,hr0⟩:=Qaf h
      have he:e'=e:=by simpa using he
      subst he
      obtain rfl:=Option.some.inj hr0
      have hrep:=S'.fr.rep t
      rw [hv] at hrep
      have hrun:(results fn a'.tmps).run P w'= .ok (a'.tmps.getD t undef) w':=by
       have hr:fn.results= #[.tmp t]:=by apply Array.ext';simpa using hres
       simp [results,hr]
      refine ⟨_,hrun,_,(G'.drop fun d' _=>d'==0).setLo 0 (G.lo 0),rfl, ?_, ?_, ?_, ?_⟩
      ·refine (S'.mem.drop fun d s=> ?_).setLo _ _
       unfold Qbp
       have e0:box? ([]:MemT) d s=none:=by simp [box?,nthD]
       rw [e0]
       by_cases hd:d=0
       ·simp [hd]
       ·have hl:=S'.depth
        have:box? σ'.mem d s=none:=by
         unfold box?
         rw [Qar [],List.getElem?_eq_none (by omega)]
         rfl
        rw [this]
        simp
      ·exact hrep.list
      ·exact (K'.trans (Keeps.drop fun d' s hd=>by simp;omega)).unlo
      ·refine ⟨n,l,rfl, ?_⟩
       simp only [ARep] at hrep
       rcases hrep with hrep|⟨h1,b,off,cap,h2,h3,h4,h5,h6,h7⟩
       ·exact .inl hrep
       ·rcases h7 with ⟨q,_⟩|⟨_,q1,rfl,q3,q4,q5⟩
        ·cases q
        ·have:=(S'.mem.own b _ q1).1
         exact .inr ⟨h1,b,cap,h2,by omega,h3,h4,q3,q4,q5,h6⟩
     ·cases h
    ·cases h
   cases en with
   |exit id=>cases hk
   |normal=>exact fin hk
   |ret=>exact fin hk
  ·cases h
 ·cases h
theorem Qoz (SE:Qa5 P) (N:Qe4 P) (hmix:P.follows .mixedOrders=true) {K:Cfg} (hp:K.pan=none:=by rfl) {T:World→Prop} {N0:Nat} (hT:∀w w',Below N0 w w'→T w→T w')
  {lib:FuncId→Option (List CV→Option CV)} (L:QnT P K.gl T lib) (Lt:∀f s,lib f=some s→Qae P f=none∧K.own f=none) (H:∀(B:Nat) (W0:Base),W0.K=K→N0≤B→T W0.W→Qjx P B W0):
  ∀(n B:Nat) (W0:Base),W0.K=K→N0≤B→T W0.W→CallOK P B W0 (Qcu P K lib n)
 |0,B,W0,_,_,_=>⟨fun h=>by simp [Qcu] at h,fun h=>by simp [Qcu] at h⟩
 |n+1,B,W0,hK,hB,hW=>by
  subst hK
  have key:∀{f args r},Qcu P W0.K lib (n+1) f args=some r→(∃s,lib f=some s∧s args=some r)∨QfI P W0.K (Qcu P W0.K lib n) n (evF P W0.K (Qcu P W0.K lib n) n 9) f (args.map .val)=some r:=by
   intro f args r h
   unfold Qcu at h
   split at h
   ·rename_i s hs;exact .inl ⟨s,hs,h⟩
   ·exact .inr h
  refine ⟨fun {f args r} h vs w=> ?_,fun {f args r} h w hw vs hbel hglob hle hz hv=> ?_⟩
  ·rcases key h with ⟨s,hs,h⟩|h
   ·exact (L f s hs args r h).1 vs w
   ·unfold QfI at h
    split at h
    ·obtain ⟨fn,c,hf,hb,_⟩:=Qpq h
     exact Qb1 N hf hb vs w
    ·split at h
     ·unfold Qin at h
      split at h
      ·rename_i fn hf
       split at h
       ·rename_i c hb
        exact Qb1 N hf hb vs w
       ·cases h
      ·cases h
     ·cases h
  ·have hTw:T w:=hT _ _ (hbel.mono hB) hW
   rcases key h with ⟨s,hs,h⟩|h
   ·refine ((L f s hs args r h).2 w hw vs hTw hz hglob hv).mono fun e w' he=> ?_
    obtain ⟨v,h',q1,q2,q3,q4,q5⟩:=he
    exact ⟨v,h',q1,q2,q3,q4,q5,(fun e he=>by rw [(Lt f s hs).1] at he;cases he),(fun e _ he=>by rw [(Lt f s hs).2] at he;cases he)⟩
   ·have CO:=Qoz SE N hmix hp hT L Lt H n w.heap.size ⟨w,W0.K⟩ rfl (Nat.le_trans hB hle) hTw
    have IF:InlOK (β:=CV) noZ P w.heap.size ⟨w,W0.K⟩ (evF P W0.K (Qcu P W0.K lib n) n 9):=QrK (W0:=⟨w,W0.K⟩) SE N CO (H _ ⟨w,W0.K⟩ rfl (Nat.le_trans hB hle) hTw) hmix hp 9
    have M:Mem P w.heap.size ⟨w,W0.K⟩ w {blk:=fun _ _=>none,hw:=hw,own:=fun _=>none} []:=
     ⟨Below.refl _ _,Nat.le_refl _,fun b p h=>(by cases h),hz,fun _ _ _=>rfl,fun d s cs h=>(by simp [box?,nthD] at h),fun _ _ _ _ _ h=>(by cases h),hglob⟩
    unfold QfI at h
    split at h
    ·rename_i hno
     refine (QkQ (W0:=⟨w,W0.K⟩) SE N CO hmix IF h w _ 0 M rfl vs (CRepT.vals hv)).2.mono fun e w' he=> ?_
     rcases he with ⟨v,x,mem',G',rfl,hk,M',_,hr,_,K'⟩|⟨_,_,_,q,_⟩
     case inr=>exact absurd q id
     exact ⟨x,G'.hw,rfl,K'.below,K'.low,M'.hw,(Qjd hk hr).1,(Qjd hk hr).2,(fun e _ he=>by rw [hno] at he;cases he)⟩
    ·rename_i e0 ho
     split at h
     ·rename_i ht
      refine (QnC SE N CO hmix IF h w _ M vs (CRepT.vals hv) rfl).2.mono fun e w' he=> ?_
      obtain ⟨x,G',rfl,M',hr,K',hfr⟩:=he
      exact ⟨x,G'.hw,rfl,K'.below,K'.low,M'.hw,hr,(fun e he=>by rw [ht] at he;cases he),(fun e _ he=>by rw [ho] at he;cases he;exact hfr)⟩
     ·cases h
end Go.Am
namespace Go.Am
open Go.RowKit
def Qkd (P:Program):List Field→Nat→Option Nat
 | [],o=>some o
 |f::r,o=>if f.offset=o then Qkd P r (o+P.cellsOf f.type) else none
def QjK (P:Program):Nat→Bool→TypeId→Bool
 |0,_,_=>false
 |n+1,sl,t=>
  match P.underlying t with
  |some .bool=>true
  |some (.int _)=>true
  |some .string=>true
  |some (.slice e)=>P.cellsOf e !=0&&QjK P n sl e
  |some (.struct fs)=>Qkd P fs.toList 0==some (P.cellsOf t)&&fs.toList.all fun f=>QjK P n sl f.type
  |_=>false
def TyF (ty:TypeId→List CV→Prop):List TypeId→List CV→Prop
 | [],l=>l= []
 |t::ts,l=>∃p r,l=p++r∧ty t p∧TyF ty ts r
def Ty (P:Program):Nat→TypeId→List CV→Prop
 |0,_,_=>False
 |n+1,t,l=>
  match P.underlying t with
  |some .bool=>∃b,l= [.bool b]
  |some (.int k)=>∃z,l= [.int k z]∧k.min≤z∧z≤k.max
  |some .string=>∃s:List UInt8,l= [.str s]∧s.length≤reachBytes
  |some (.slice e)=>∃nl xs,l= [.list nl xs]∧(nl=true→xs= [])∧xs.length*P.bytesOf e≤reachBytes∧∀x∈xs,Ty P n e x
  |some (.struct fs)=>TyF (Ty P n) (fs.toList.map (·.type)) l
  |_=>False
section
variable {H:Type} {enc:TypeId×Value→H} {P:Program} {W:World} {h:Hw}
theorem Qla {e:TypeId} {d:DataW H} {y:Nat}:∀{l:List (DataW H)},d∈l→y∈d.weights P e→y∈DataW.weightsAll P e l
 | [],h,_=>by cases h
 |x::l,hd,hy=>by
  unfold DataW.weightsAll
  rcases List.mem_cons.1 hd with rfl|hd
  ·exact List.mem_append_left _ hy
  ·exact List.mem_append_right _ (Qla hd hy)
theorem QkJ {d:DataW H} {t:TypeId} {y:Nat}:∀{ts:List TypeId} {l:List (DataW H)} {i:Nat},ts[i]?=some t→l[i]?=some d→y∈d.weights P t→y∈DataW.weightsEach P ts l
 | [],_,_,h,_,_=>by simp at h
 |_::_, [],_,_,h,_=>by simp at h
 |t'::ts,x::l,i,ht,hl,hy=>by
  unfold DataW.weightsEach
  cases i with
  |zero=>
   simp only [List.getElem?_cons_zero,Option.some.injEq] at ht hl
   subst ht;subst hl
   exact List.mem_append_left _ hy
  |succ i=>exact List.mem_append_right _ (QkJ (by simpa using ht) (by simpa using hl) hy)
theorem Quk {b:Nat}:∀{c:List CV} {us:List Value} {off:Nat},CRepV W h c us→(∀(j:Nat) u,us[j]?=some u→W.cell? (Qas b (off+j))=some u)→CRepC W h b off c
 | [],_,_,_,_=>by simp [CRepC]
 |c::cs,us,off,hr,hc=>by
  simp only [CRepV] at hr
  obtain ⟨v,r,rfl,h1,h2,h3⟩:=hr
  simp only [CRepC]
  refine ⟨⟨v,by simpa using hc 0 v rfl,h1,h2⟩,Quk h3 fun j u hj=> ?_⟩
  have:=hc (j+1) u (by simpa using hj)
  rw [show off+1+j=off+(j+1) by omega]
  exact this
theorem Qsc {b es:Nat}:∀{xs:List (List CV)} {off:Nat},(∀(i:Nat) c,xs[i]?=some c→∃us:List Value,us.length=es∧CRepV W h c us∧∀(j:Nat) u,us[j]?=some u→W.cell? (Qas b (off+i*es+j))=some u)→
  CRepLL W h b off xs
 | [],_,_=>by simp [CRepLL]
 |c::xs,off,hx=>by
  simp only [CRepLL]
  obtain ⟨us,h1,h2,h3⟩:=hx 0 c rfl
  refine ⟨Quk h2 fun j u hj=>by simpa using h3 j u hj, ?_⟩
  have hl:c.length=es:=by rw [←h1];exact (CRepV.length h2).symm
  rw [hl]
  refine Qsc (es:=es) fun i c' hi=> ?_
  obtain ⟨us',q1,q2,q3⟩:=hx (i+1) c' (by simpa using hi)
  refine ⟨us',q1,q2,fun j u hj=> ?_⟩
  have:=q3 j u hj
  rw [show off+es+i*es+j=off+(i+1)*es+j by rw [Nat.add_mul];omega]
  exact this
def Near (h:Hw) (cs:List Value):Prop:=∀v∈cs,∀a len cap,v=Value.slice (some a) len cap→a.spot=none∧a.off≤h a.block
theorem Qr6 {ty:TypeId→List CV→Prop} {cs:List Value}:∀{fs:List Field} {o:Nat},Qkd P fs o=some cs.length→o≤cs.length→
  (∀f∈fs,∃l,ty f.type l∧CRepV W h l ((cs.drop f.offset).take (P.cellsOf f.type)))→∃l,TyF ty (fs.map (·.type)) l∧CRepV W h l (cs.drop o)
 | [],o,ht,_,_=>by
  simp only [Qkd,Option.some.injEq] at ht
  subst ht
  exact ⟨[],rfl,by simp [CRepV]⟩
 |f::fs,o,ht,ho,hf=>by
  unfold Qkd at ht
  split at ht
  ·rename_i e
   subst e
   have hle:∀{fs:List Field} {a b:Nat},Qkd P fs a=some b→a≤b:=by
    intro fs
    induction fs with
    |nil=>intro a b h;simp only [Qkd,Option.some.injEq] at h;omega
    |cons g gs ih=>
     intro a b h
     unfold Qkd at h
     split at h
     ·have:=ih h;omega
     ·cases h
   obtain ⟨l1,h1,h2⟩:=hf f (by simp)
   obtain ⟨l2,h3,h4⟩:=Qr6 ht (hle ht) fun g hg=>hf g (by simp [hg])
   refine ⟨l1++l2,⟨l1,l2,rfl,h1,h3⟩, ?_⟩
   have e2:cs.drop f.offset=(cs.drop f.offset).take (P.cellsOf f.type)++cs.drop (f.offset+P.cellsOf f.type):=by
    rw [←List.drop_drop,List.take_append_drop]
   rw [e2]
   exact h2.append h4
  ·cases ht
theorem Qrw (hh:∀b o v,W.cell? (Qas b o)=some v→o<h b):∀(n:Nat) (sl:Bool) (t:TypeId) (m:Nat) (cs:List Value) (x:DataW H×List MemPlace),QjK P n sl t=true→
  DataW.trod enc P W 0 (fun _=>true) true m t cs=some x→(∀y∈x.1.weights P t,y≤reachBytes)→∃l,Ty P n t l∧CRepV W h l cs
 |0,_,_,_,_,_,hp,_,_=>by cases hp
 |n+1,sl,t,m,cs,x,hp,ht,hw=>by
  unfold QjK at hp
  unfold Ty
  cases hu:P.underlying t with
  |none=>rw [hu] at hp;cases hp
  |some d=>
   rw [hu] at hp
   cases d with
   |bool=>
    obtain ⟨b,rfl,rfl⟩:=DataW.trod_bool hu ht
    exact ⟨[.bool b],⟨b,rfl⟩,by simp only [CRepV,CRep];exact ⟨_,_,rfl,rfl,rfl,rfl⟩⟩
   |int k=>
    obtain ⟨z,rfl,rfl,hz⟩:=DataW.trod_int hu ht
    simp only [Lit.wf,Bool.and_eq_true,decide_eq_true_eq] at hz
    exact ⟨[.int k z],⟨z,rfl,hz.1,hz.2⟩,by simp only [CRepV,CRep];exact ⟨_,_,rfl,rfl,rfl,rfl⟩⟩
   |string=>
    obtain ⟨s,rfl,rfl,hs⟩:=DataW.trod_string hu ht
    exact ⟨[.str s.data.toList],⟨s.data.toList,rfl,hw _ (by simp [DataW.weights])⟩,by simp only [CRepV,CRep];exact ⟨_,_,rfl,rfl,rfl,rfl⟩⟩
   |slice e=>
    simp only [Bool.and_eq_true,bne_iff_ne,ne_eq] at hp
    obtain ⟨hc0,hpe⟩:=hp
    rcases DataW.trod_slice hu ht with ⟨rfl,rfl⟩|⟨a,len,cap,elems,rest,m',rfl,rfl,rfl,hb,hl,hm,hlen,hel,hsp,hns⟩
    ·exact ⟨[.list true []],⟨true, [],rfl,fun _=>rfl,by simp,fun x hx=>by cases hx⟩,by simp only [CRepV,CRep];exact ⟨_,_,rfl,rfl, .inl ⟨trivial,trivial,rfl⟩,rfl⟩⟩
    ·by_cases hlen0:len=0
     ·subst hlen0
      refine ⟨[.list false []],⟨false, [],rfl,fun _=>rfl,by simp,fun x hx=>(by cases hx)⟩, ?_⟩
      simp only [CRepV]
      refine ⟨_,_,rfl,rfl, ?_,rfl⟩
      simp only [CRep]
      exact .inr ⟨trivial,0,0,cap,0,⟨a,rfl,fun q=>by simp at q⟩,by simp,by simp,by simp,by simp [CRepLL]⟩
     obtain ⟨b,off,rfl⟩:∃b off,a=Qas b off:=by
      have h0:=hel 0 (by omega)
      have hi:0<elems.length:=by omega
      rw [List.getElem?_eq_getElem hi,Option.bind_eq_some_iff] at h0
      obtain ⟨us,hus,_⟩:=h0
      obtain ⟨_,r1,r2⟩:=World.cells?_some hus
      have r3:=r2 0 (by omega)
      obtain ⟨bl,of,sp⟩:=a
      cases sp with
      |none=>exact ⟨bl,of,rfl⟩
      |some q=>
       exfalso
       have hu0:us[0]?≠none:=by rw [List.getElem?_eq_getElem (by omega)];simp
       rw [←r3] at hu0
       simp [World.cell?,Addr.add] at hu0
       split at hu0<;>simp at hu0
     have each:∀i:Fin len,∃l,Ty P n e l∧∃us:List Value,us.length=P.cellsOf e∧CRepV W h l us∧∀(j:Nat) u,us[j]?=some u→W.cell? (Qas b (off+i.1*P.cellsOf e+j))=some u:=by
      intro i
      have hi:i.1<elems.length:=by rw [hlen];exact i.2
      have hb':=hel i.1 i.2
      rw [List.getElem?_eq_getElem hi,Option.bind_eq_some_iff] at hb'
      obtain ⟨us,hus,hy⟩:=hb'
      obtain ⟨_,r1,r2⟩:=World.cells?_some hus
      obtain ⟨l,q1,q2⟩:=Qrw hh n sl e m' us _ hpe hy (fun y hy'=>hw y (by
       unfold DataW.weights
       rw [hu]
       exact List.mem_cons_of_mem _ (List.mem_append_left _ (Qla (List.mem_map.2 ⟨_,List.getElem_mem hi,rfl⟩) hy'))))
      refine ⟨l,q1,us,r1,q2,fun j u hj=> ?_⟩
      have:=r2 j (by rw [←r1];exact (List.getElem?_eq_some_iff.1 hj).1)
      rw [hj,Qbi,Qbi] at this
      exact this
     obtain ⟨F,hF⟩:∃F:Fin len→List CV,∀i,Ty P n e (F i)∧∃us:List Value,us.length=P.cellsOf e∧CRepV W h (F i) us∧∀(j:Nat) u,us[j]?=some u→W.cell? (Qas b (off+i.1*P.cellsOf e+j))=some u:=
      ⟨fun i=>Classical.choose (each i),fun i=>Classical.choose_spec (each i)⟩
     clear each
     have hrep:∀(i:Nat) c,(List.ofFn F)[i]?=some c→∃us:List Value,us.length=P.cellsOf e∧CRepV W h c us∧∀(j:Nat) u,us[j]?=some u→W.cell? (Qas b (off+i*P.cellsOf e+j))=some u:=by
      intro i c hi
      have hlt:i<len:=by have:=(List.getElem?_eq_some_iff.1 hi).1;simpa using this
      rw [List.getElem?_eq_getElem (by simpa using hlt),List.getElem_ofFn,Option.some.injEq] at hi
      subst hi
      exact (hF ⟨i,hlt⟩).2
     have hlens:∀c∈List.ofFn F,c.length=P.cellsOf e:=by
      intro c hc
      obtain ⟨i,hi,hci⟩:=List.getElem_of_mem hc
      obtain ⟨us,q1,q2,_⟩:=hrep i c (by rw [List.getElem?_eq_getElem hi,hci])
      rw [←q1];exact (CRepV.length q2).symm
     refine ⟨[.list false (List.ofFn F)],⟨false,_,rfl,fun q=>(by cases q), ?_, ?_⟩, ?_⟩
     ·have:=hw ((elems.length+rest.length)*P.bytesOf e) (by
       unfold DataW.weights
       rw [hu]
       simp)
      refine Nat.le_trans (Nat.mul_le_mul_right _ ?_) this
      simp [hlen]
     ·intro x hx
      obtain ⟨i,rfl⟩:=List.mem_ofFn.1 hx
      exact (hF i).1
     ·simp only [CRepV]
      refine ⟨_,_,rfl,rfl, ?_,rfl⟩
      simp only [CRep]
      refine .inr ⟨trivial,b,off,cap,P.cellsOf e, .mk (by simp),by simpa using hl,hlens, ?_,Qsc hrep⟩
      ·obtain ⟨us,q1,q2,q3⟩:=hrep (len-1) _ (List.getElem?_eq_getElem (by simp;omega))
       have hj:P.cellsOf e-1<us.length:=by omega
       have:=hh _ _ _ (q3 (P.cellsOf e-1) _ (List.getElem?_eq_getElem hj))
       simp only [List.length_ofFn]
       have e1:len*P.cellsOf e=(len-1)*P.cellsOf e+P.cellsOf e:=by
        rw [←Nat.succ_mul];congr 1;omega
       omega
   |struct fs=>
    simp only [Bool.and_eq_true,beq_iff_eq,List.all_eq_true] at hp
    obtain ⟨hti,hpf⟩:=hp
    obtain ⟨xs,m',rfl,rfl,hlen,hxs,hf⟩:=DataW.trod_struct hu ht
    have:=Qr6 (P:=P) (W:=W) (h:=h) (ty:=Ty P n) (cs:=cs) (fs:=fs.toList) (o:=0) (by rw [hti,hlen]) (Nat.zero_le _) fun f hfm=>by
     obtain ⟨i,hi,rfl⟩:=List.getElem_of_mem hfm
     have hi':i<fs.size:=by simpa using hi
     have hfi:=hf i fs[i] (by simp [hi'])
     have hix:i<xs.length:=by omega
     rw [List.getElem?_eq_getElem hix] at hfi
     simp only [Array.getElem_toList]
     refine Qrw hh n sl _ m' _ _ (hpf _ (by simp)) hfi (fun y hy=>hw y ?_)
     unfold DataW.weights
     rw [hu]
     exact QkJ (i:=i) (by simp [hi']) (by simp [hix]) hy
    simpa using this
   |_=>cases hp
end
def ArgTy (P:Program) (t:TypeId) (c:CV):Prop:=match Qa0 P t with
 |true=>∃l,c= .agg l∧Ty P 8 t l
 |false=>Ty P 8 t [c]
def ArgsTy (P:Program):List TypeId→List CV→Prop
 | [],cs=>cs= []
 |t::ts,cs=>∃c r,cs=c::r∧ArgTy P t c∧ArgsTy P ts r
section
variable {P:Program} {n:Nat} {t:TypeId} {l:List CV} {c:CV}
theorem Ty.bool (hu:P.underlying t=some .bool) (h:Ty P (n+1) t l):∃b,l= [.bool b]:=by
 unfold Ty at h;rw [hu] at h;exact h
theorem Ty.int {k:IntKind} (hu:P.underlying t=some (.int k)) (h:Ty P (n+1) t l):∃z,l= [.int k z]∧k.min≤z∧z≤k.max:=by
 unfold Ty at h;rw [hu] at h;exact h
theorem Ty.str (hu:P.underlying t=some .string) (h:Ty P (n+1) t l):∃s:List UInt8,l= [.str s]∧s.length≤reachBytes:=by
 unfold Ty at h;rw [hu] at h;exact h
theorem Ty.slice {e:TypeId} (hu:P.underlying t=some (.slice e)) (h:Ty P (n+1) t l):
  ∃nl xs,l= [.list nl xs]∧(nl=true→xs= [])∧xs.length*P.bytesOf e≤reachBytes∧∀x∈xs,Ty P n e x:=by
 unfold Ty at h;rw [hu] at h;exact h
theorem Ty.struct {fs:Array Field} {ts:List TypeId} (hu:P.underlying t=some (.struct fs)) (hts:fs.toList.map (·.type)=ts) (h:Ty P (n+1) t l):TyF (Ty P n) ts l:=by
 unfold Ty at h;rw [hu] at h;rw [←hts];exact h
theorem ArgTy.bool (hu:P.underlying t=some .bool) (h:ArgTy P t c):∃b,c= .bool b:=by
 unfold ArgTy Qa0 at h;rw [hu] at h
 obtain ⟨b,e⟩:=Ty.bool hu h
 exact ⟨b,by simpa using e⟩
theorem ArgTy.int {k:IntKind} (hu:P.underlying t=some (.int k)) (h:ArgTy P t c):∃z,c= .int k z∧k.min≤z∧z≤k.max:=by
 unfold ArgTy Qa0 at h;rw [hu] at h
 obtain ⟨z,e,h⟩:=Ty.int hu h
 exact ⟨z,by simpa using e,h⟩
theorem ArgTy.str (hu:P.underlying t=some .string) (h:ArgTy P t c):∃s:List UInt8,c= .str s∧s.length≤reachBytes:=by
 unfold ArgTy Qa0 at h;rw [hu] at h
 obtain ⟨z,e,h⟩:=Ty.str hu h
 exact ⟨z,by simpa using e,h⟩
theorem ArgTy.slice {e:TypeId} (hu:P.underlying t=some (.slice e)) (h:ArgTy P t c):
  ∃nl xs,c= .list nl xs∧(nl=true→xs= [])∧xs.length*P.bytesOf e≤reachBytes∧∀x∈xs,Ty P 7 e x:=by
 unfold ArgTy Qa0 at h;rw [hu] at h
 obtain ⟨nl,xs,e,h⟩:=Ty.slice hu h
 exact ⟨nl,xs,by simpa using e,h⟩
theorem ArgTy.struct {fs:Array Field} {ts:List TypeId} (hu:P.underlying t=some (.struct fs)) (hts:fs.toList.map (·.type)=ts) (h:ArgTy P t c):∃l,c= .agg l∧TyF (Ty P 7) ts l:=by
 unfold ArgTy Qa0 at h;rw [hu] at h
 obtain ⟨l,e,h⟩:=h
 exact ⟨l,e,Ty.struct hu hts h⟩
theorem ArgsTy.cons {ts:List TypeId} {cs:List CV} (h:ArgsTy P (t::ts) cs):∃c r,cs=c::r∧ArgTy P t c∧ArgsTy P ts r:=h
theorem ArgsTy.nil {cs:List CV} (h:ArgsTy P [] cs):cs= []:=h
end
def hw0 (W:World) (M:Nat):Hw:=fun b=>if b<W.heap.size then M+(match W.heap[b]? with|some (.cells c _ _)=>c.size|_=>0) else 0
theorem Qvd {W:World} {M:Nat} (b:Nat) (h:W.heap.size≤b):hw0 W M b=0:=by
 unfold hw0
 rw [if_neg (by omega)]
theorem QxB {W:World} {M b:Nat} (h:b<W.heap.size):M≤hw0 W M b:=by
 unfold hw0
 rw [if_pos h]
 omega
theorem QxI {W:World} {M:Nat} (b o:Nat) (v:Value) (h:W.cell? (Qas b o)=some v):o<hw0 W M b:=by
 unfold World.cell? at h
 split at h
 ·rename_i c e fz hb
  have hlt:b<W.heap.size:=(Array.getElem?_eq_some_iff.1 hb).1
  have hb:W.heap[b]?=some (.cells c e fz):=hb
  unfold hw0
  rw [if_pos hlt,hb]
  simp only [Option.isSome_none,Bool.false_eq_true,if_false] at h
  have:=(Array.getElem?_eq_some_iff.1 h).1
  simp only
  omega
 ·cases h
def Qyr:Value→Nat
 | .slice (some a) _ _=>a.off
 |_=>0
def offs (vs:List Value):Nat:=((vs.flatMap fun v=>v.cells.toList).map Qyr).sum
section
variable {H:Type} {enc:TypeId×Value→H} {P:Program} {W:World}
theorem Qwr:∀{l:List Nat} {x:Nat},x∈l→x≤l.sum
 | [],_,h=>by cases h
 |y::l,x,h=>by
  rcases List.mem_cons.1 h with rfl|h
  ·simp
  ·have:=Qwr h;simp;omega
theorem Qxn {base:Nat} {u:TypeId} {a:Addr} {len cap:Nat} (h:Cell.okWide P W .any base u (.slice (some a) len cap)):a.spot=none∧a.block<W.heap.size:=by
 unfold Cell.okWide at h
 split at h
 all_goals first
  |(rename_i hv;cases hv;done)
  |skip
 all_goals try (rename_i hv _;cases hv;done)
 unfold Cell.ok at h
 split at h
 all_goals first
  |(rename_i hv;cases hv;done)
  |skip
 ·rename_i hv
  cases hv
  obtain ⟨_,_,_,hs,row,cells,hsh,_⟩:=h
  refine ⟨hs, ?_⟩
  refine Decidable.byContradiction fun hn=> ?_
  simp [World.shape?,Array.getElem?_eq_none (Nat.le_of_not_lt hn)] at hsh
 ·cases h
theorem Qzu {M base:Nat} {t:TypeId} {v:Value} {d:DataW H} {ps:List MemPlace} (hT:DataW.Trod enc P W 0 (fun _=>true) true t v d ps) (hok:Value.okWide P W .any base t v)
  (hp:QjK P 8 true t=true) (hw:∀y∈d.weights P t,y≤reachBytes) (hM:offs [v]≤M):∃c,ArgTy P t c∧CRep W (hw0 W M) c v:=by
 obtain ⟨m,hm⟩:=hT
 have hcells:∀x∈v.cells.toList,∃u,Cell.okWide P W .any base u x:=by
  intro x hx
  unfold Value.okWide at hok
  split at hok
  ·obtain ⟨cs,rfl,_,ts,_,_,hall⟩:=hok
   have hx:x∈cs.toList:=hx
   obtain ⟨i,hi⟩:=List.mem_iff_getElem?.1 hx
   obtain ⟨u,_,hu⟩:=hall i x (by simpa using hi)
   exact ⟨u,hu⟩
  ·obtain ⟨cs,rfl,_,ts,_,_,hall⟩:=hok
   have hx:x∈cs.toList:=hx
   obtain ⟨i,hi⟩:=List.mem_iff_getElem?.1 hx
   obtain ⟨u,_,hu⟩:=hall i x (by simpa using hi)
   exact ⟨u,hu⟩
  ·rename_i q1 q2
   refine ⟨t, ?_⟩
   have:v.cells.toList= [v]:=by
    cases v with
    |agg cs=>
     exfalso
     unfold Cell.okWide at hok
     split at hok
     all_goals first
      |(rename_i hv;cases hv;done)
      |skip
     all_goals try (rename_i hv _;cases hv;done)
     unfold Cell.ok at hok
     split at hok
     all_goals first
      |(rename_i hv;cases hv;done)
      |exact hok
    |_=>rfl
   rw [this] at hx
   rw [List.mem_singleton.1 hx]
   exact hok
 have hnear:Near (hw0 W M) v.cells.toList:=by
  intro x hx a len cap e
  subst e
  obtain ⟨u,hu⟩:=hcells _ hx
  obtain ⟨h1,h2⟩:=Qxn hu
  refine ⟨h1,Nat.le_trans ?_ (QxB h2)⟩
  refine Nat.le_trans ?_ hM
  have:a.off∈(([v].flatMap fun v=>v.cells.toList).map Qyr):=List.mem_map.2 ⟨_,by simpa using hx,rfl⟩
  exact Qwr this
 obtain ⟨l,h1,h2⟩:=Qrw (h:=hw0 W M) QxI 8 true t m _ _ hp hm hw
 unfold ArgTy
 cases ha:Qa0 P t with
 |true=>
  have:∃cs,v= .agg cs:=by
   unfold Value.okWide at hok
   unfold Qa0 at ha
   split at hok
   ·exact ⟨_,hok.choose_spec.1⟩
   ·exact ⟨_,hok.choose_spec.1⟩
   ·rename_i q1 q2
    split at ha
    ·rename_i fs hu;exact (q1 fs hu).elim
    ·rename_i n e hu;exact (q2 n e hu).elim
    ·cases ha
  obtain ⟨cs,rfl⟩:=this
  refine ⟨.agg l,⟨l,rfl,h1⟩, ?_⟩
  simp only [CRep]
  exact ⟨cs.toList,by simp,h2⟩
 |false=>
  have hone:v.cells.toList= [v]:=by
   cases v with
   |agg cs=>
    exfalso
    unfold Value.okWide at hok
    unfold Qa0 at ha
    split at ha
    ·cases ha
    ·cases ha
    rename_i q1 q2
    split at hok
    ·rename_i fs hu;exact q1 fs hu
    ·rename_i n e hu;exact q2 n e hu
    unfold Cell.okWide at hok
    split at hok
    all_goals first
     |(rename_i hv;cases hv;done)
     |skip
    all_goals try (rename_i hv _;cases hv;done)
    unfold Cell.ok at hok
    split at hok
    all_goals first
     |(rename_i hv;cases hv;done)
     |exact hok
   |_=>rfl
  rw [hone] at h2
  match l,h1,h2 with
  | [],_,h2=>simp [CRepV] at h2
  | [c],h1,h2=>
   simp only [CRepV] at h2
   obtain ⟨v',r,e,_,h3,rfl⟩:=h2
   simp only [List.cons.injEq,and_true] at e
   subst e
   exact ⟨c,h1,h3⟩
  |c::c'::l,_,h2=>
   simp only [CRepV] at h2
   obtain ⟨v',r,e,_,h3,v2,r2,rfl,_⟩:=h2
   simp at e
theorem Qvf {M base:Nat}:∀{ts:List TypeId} {vs:List Value} {ds:List (DataW H)} {ps:List MemPlace},DataW.TrodAll enc P W 0 (fun _=>true) true ts vs ds ps→
  (∀(j:Nat) t v,ts[j]?=some t→vs[j]?=some v→Value.okWide P W .any base t v)→ts.all (QjK P 8 true)=true→(∀y∈DataW.weightsEach P ts ds,y≤reachBytes)→offs vs≤M→
  ∃cs,ArgsTy P ts cs∧CRepT W (hw0 W M) cs vs
 | [], [], [],_,_,_,_,_,_=>⟨[],rfl,by simp [CRepT]⟩
 |t::ts,v::vs,d::ds,ps,hT,hok,hp,hw,hM=>by
  obtain ⟨p,q,h1,h2,rfl⟩:=hT
  simp only [List.all_cons,Bool.and_eq_true] at hp
  unfold DataW.weightsEach at hw
  have hM':offs [v]+offs vs=offs (v::vs):=by simp [offs]
  obtain ⟨c,a1,a2⟩:=Qzu (M:=M) h1 (hok 0 t v rfl rfl) hp.1 (fun y hy=>hw y (List.mem_append_left _ hy)) (by omega)
  obtain ⟨cs,b1,b2⟩:=Qvf (M:=M) h2 (fun j t v ht hv=>hok (j+1) t v (by simpa using ht) (by simpa using hv)) hp.2 (fun y hy=>hw y (List.mem_append_right _ hy)) (by omega)
  refine ⟨c::cs,⟨c,cs,rfl,a1,b1⟩, ?_⟩
  simp only [CRepT]
  exact ⟨v,vs,rfl,a2,b2⟩
 | [],_::_,_,_,h,_,_,_,_=>by simp [DataW.TrodAll] at h
 | [], [],_::_,_,h,_,_,_,_=>by simp [DataW.TrodAll] at h
 |_::_, [],_,_,h,_,_,_,_=>by simp [DataW.TrodAll] at h
 |_::_,_::_, [],_,h,_,_,_,_=>by simp [DataW.TrodAll] at h
theorem QoT {base:Nat} {spare:Nat→Bool} {held:Bool}:∀{ts:List TypeId} {vs:List Value} {ds:List (DataW H)} {ps:List MemPlace},DataW.TrodAll enc P W base spare held ts vs ds ps→ds.length=ts.length
 | [], [], [],_,_=>rfl
 |t::ts,v::vs,d::ds,_,h=>by
  obtain ⟨p,q,h1,h2,rfl⟩:=h
  simp [QoT h2]
 | [],_::_,_,_,h=>by simp [DataW.TrodAll] at h
 | [], [],_::_,_,h=>by simp [DataW.TrodAll] at h
 |_::_, [],_,_,h=>by simp [DataW.TrodAll] at h
 |_::_,_::_, [],_,h=>by simp [DataW.TrodAll] at h
theorem Qt1 {W':World} {sp:Nat→Bool} (hl:laidOutB P=true) (hb:Below W.heap.size W W'):∀{ts:List TypeId} {vs:List Value} {ds:List (DataW H)} {ps:List MemPlace},
  DataW.TrodAll enc P W 0 (fun _=>true) true ts vs ds ps→ts.all (fun t=>P.readableRec t&&decide (t<P.types.size))=true→(∀x∈ps,x.block<W.heap.size)→(∀x∈ps,sp x.block=true)→
  DataW.TrodAll enc P W' 0 sp true ts vs ds ps
 | [], [], [],_,h,_,_,_=>h
 |t::ts,v::vs,d::ds,ps,hT,hr,hlt,hsp=>by
  obtain ⟨p,q,h1,h2,rfl⟩:=hT
  simp only [List.all_cons,Bool.and_eq_true,decide_eq_true_eq] at hr
  exact ⟨p,q,WideElems.Trod_stays hl hr.1.1 hr.1.2 h1 (fun x hx=>hb.same (hlt x (List.mem_append_left _ hx))) (fun x hx=>hsp x (List.mem_append_left _ hx)),
   Qt1 hl hb h2 hr.2 (fun x hx=>hlt x (List.mem_append_right _ hx)) (fun x hx=>hsp x (List.mem_append_right _ hx)),rfl⟩
 | [],_::_,_,_,h,_,_,_=>by simp [DataW.TrodAll] at h
 | [], [],_::_,_,h,_,_,_=>by simp [DataW.TrodAll] at h
 |_::_, [],_,_,h,_,_,_=>by simp [DataW.TrodAll] at h
 |_::_,_::_, [],_,h,_,_,_=>by simp [DataW.TrodAll] at h
open Go.ChangeShapes Go.WideShapes Go.ChangeAt in
theorem Qsw {f:Func} {s:ChangeSpec} {apart fresh handsOn again:Bool} {W W':World} {args:Array Value} {v:Value} {ds gs:List (DataW H)} {before pa pv:List MemPlace}
  (hW:DataW.Whole enc P f.params.toList s.vars apart W args.toList ds gs before)
  (hres:∀(b:Nat) (sp:Nat→Bool) (hd:Bool),DataW.TrodAll enc P W' b sp hd f.resultTypes.toList (v.resultList f.resultTypes.size) (s.fn H (ds++gs)).results [])
  (hargs:∀sp:Nat→Bool,(∀p∈before,sp p.block=true)→DataW.TrodAll enc P W' 0 sp true f.params.toList args.toList (s.fn H (ds++gs)).args pa)
  (hvars:∀sp:Nat→Bool,(∀p∈before,sp p.block=true)→DataW.TrodVars enc P W' sp s.vars (s.fn H (ds++gs)).vars pv)
  (hps:before=pa++pv) (hb:Below W.heap.size W W')
  (hok:∀(j:Nat) (t:TypeId) (r:Value),f.resultTypes[j]?=some t→(v.resultList f.resultTypes.size)[j]?=some r→Value.okWide P W' .any 0 t r):
  s.post enc P f apart fresh handsOn again W args v W':=by
 have hlt:=hW.lt
 have hold:∀p∈before,(fun b=>decide (b<W.heap.size)) p.block=true:=fun p hp=>by simpa using hW.lt p hp
 refine ⟨ds,gs,before, [],pa,pv,hW,hres _ _ _,hargs _ hold,hvars _ hold,hb.frame _,fun _=> ?_⟩
 obtain ⟨_,_,_,_,_,hz,hn⟩:=hW
 refine ⟨hok,_,_,([]++pa)++pv,⟨[]++pa,pv,trodAll_append (hargs _ (fun _ _=>rfl)) (hres _ _ _),hvars _ (fun _ _=>rfl),rfl, ?_, ?_⟩, ?_⟩
 ·intro b off hp
  have hp:MemPlace.cell b off∈before:=by rw [hps];simpa using hp
  rw [hb.frozen (hlt _ hp)]
  exact hz b off hp
 ·intro ha
  have:=hn ha
  rw [hps] at this
  simpa using this
 ·intro p hp _
  rw [hps]
  simpa using hp
end
section
open Go.ChangeShapes Go.WideShapes Go.ChangeAt
variable {H:Type} {enc:TypeId×Value→H}
theorem Qwu {C:Checked} {os:Os} {f:FuncId} {fn:Func} {s:ChangeSpec} {conds:List PathCond} {tb:TypeId} {laid:List (String×DataW Unit)} (own:ownKnob C.prog.godebug=none) (started:os.Started) (noInit:C.prog.inits.idxOf? f=none) (hfn:C.prog.funcs[f]?=some fn)
  (witness:∃(w:World) (tape:Tape) (i:Input),w.os=os∧(w.forCall tape i).Shaped C.prog∧i.vars= []∧Input.okWide C.prog (w.forCall tape i) .any w.heap.size f i∧
   ((s.pre enc C.prog fn conds false (w.forCall tape i).memory i.args∧laidMetH C.prog laid (w.forCall tape i).memory)∧sizedMet enc C.prog fn (OpenSpec.ofChange s) false (w.forCall tape i).memory i.args)∧
   ({}:Assume).holds C.prog (lone (Frame.enter C.prog f i.args .normal) [] (w.forCall tape i)))
  (hl:laidOutB C.prog=true) (hplain:fn.params.toList.all (QjK C.prog 8 true)=true) (hread:fn.params.toList.all (fun t=>C.prog.readableRec t&&decide (t<C.prog.types.size))=true)
  (hres:fn.resultTypes= #[tb]) (hub:C.prog.underlying tb=some .bool) (hvars:s.vars= []) (hspec:∀ds:List (DataW H),ds.length=fn.params.toList.length→s.fn H ds={results:= [.lit (.bool true)],args:=ds})
  (law:∀(W:World) (M:Nat) (vs:List Value) (cs:List CV),W.ShapedOpen C.prog→laidMetH C.prog laid W→ArgsTy C.prog fn.params.toList cs→CRepT W (hw0 W M) cs vs→
   Calls C.prog f vs.toArray W fun e W'=>e= .returned (.bool true)∧Below W.heap.size W W'):
  ReturnsInHanded {} C os f .any (fun w args=>(s.pre enc C.prog fn conds false w args∧laidMetH C.prog laid w)∧sizedMet enc C.prog fn (OpenSpec.ofChange s) false w args) (s.post enc C.prog fn false true false false):=by
 refine returnsInHanded_of_calls own started noInit witness ?_
 intro w tape i _ hsh _ hok hpre _
 obtain ⟨_,_,_,fn',hfn',_,_,_,_,hval⟩:=hok
 have e:fn'=fn:=Option.some.inj (hfn'.symm.trans hfn)
 subst e
 obtain ⟨⟨⟨ds,gs,before,hw,_⟩,hx⟩,hz⟩:=hpre
 have hW:DataW.Whole enc C.prog fn'.params.toList s.vars false (w.forCall tape i) i.args.toList ds gs before:=DataW.Whole.of_heap (w':=w.forCall tape i) (by rfl) hw
 have hL:laidMetH C.prog laid (w.forCall tape i):=hx.of_heap (by rfl)
 have hsz:(DataW.weightsEach C.prog (fn'.params.toList++s.plain.varTypes C.prog) (ds++gs)).all (· ≤reachBytes)=true:=hz.weights hw
 have hW':=hW
 have hlt:=hW.lt
 obtain ⟨p,q,hA,hV,rfl,hfz,hnd⟩:=hW
 rw [hvars] at hV
 obtain ⟨rfl,rfl⟩:=trodVars_none hV
 have hvt:s.plain.varTypes C.prog= []:=by simp [ChangeSpec.plain,DataSpec.varTypes,hvars]
 rw [hvt] at hsz
 simp only [List.append_nil] at hsz hlt hW'
 obtain ⟨cs,h1,h2⟩:=Qvf (M:=offs i.args.toList) hA (fun j t v ht hv=>hval j t v (by simpa using ht) (by simpa using hv)) hplain
  (fun y hy=>by simpa using List.all_eq_true.1 hsz y hy) (Nat.le_refl _)
 have hlen:=QoT hA
 refine (law (w.forCall tape i) _ i.args.toList cs hsh hL h1 h2).mono fun e W' ⟨he,hb⟩=> ?_
 subst he
 have hs:=hspec ds hlen
 refine ChangeSpec.post_blind (Qsw (pa:=p) (pv:= []) hW' (fun b sp hd=> ?_) (fun sp hsp=> ?_) (fun _ _=> ?_) (by simp) hb (ok_one hres rfl (okWide_bool_mk hub true)))
 ·simp only [List.append_nil,hs,hres]
  exact trodAll_mk1 (shut_bool hub true)
 ·simp only [List.append_nil,hs]
  exact Qt1 hl hb hA hread hlt hsp
 ·simp only [List.append_nil,hs,hvars]
  rfl
end
end Go.Am
