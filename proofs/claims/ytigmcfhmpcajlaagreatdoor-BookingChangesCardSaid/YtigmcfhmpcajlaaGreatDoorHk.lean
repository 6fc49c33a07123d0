/- What is said of the functions that are called in place holds: builders of package strings. Conditions: as each says. -/
import Derived.Test.YtigmcfhmpcajlaaGreatDoorBw
import Derived.Test.YtigmcfhmpcajlaaGreatDoorAmC
import Derived.Test.YtigmcfhmpcajlaaGreatDoorEv
namespace Go.Proofs
open Go.RowKit Go.Am
variable {B:Nat} {W0:Base} {w:World} {G:Gh}
def QqQ (P:Program) (B:Nat) (W0:Base) (f:FuncId) (xs:List Value) (w:World) (G:Gh) (D:Nat) (v:AV) (mem':MemT):Prop:=
 Calls P f xs.toArray w fun e w'=>∃x G',e= .returned x∧Mem P B W0 w' G' mem'∧mem'.length=D∧ARep P w' G' .none v x∧v.copy=v∧Keeps B D w w' G G'
theorem tup0 (w:World) (G:Gh):ARep Tryz.prog w G .none (.val (.tup [])) (.tuple #[]):=by
 simp only [ARep,CRep]
 exact ⟨[],rfl,by simp [CRepT]⟩
theorem QmY {b o:Nat} {vs:Array Value} {T:TypeId} {fz:Nat×Nat} {u:Value} (h:w.heap[b]?=some (.cells vs T fz)) (hu:vs.toList[o]?=some u):w.cell? (Qas b o)=some u:=by
 simp only [World.cell?,h]
 simpa using hu
theorem Qt5 {mem:MemT} {d s o:Nat} {c:List AV} (h:box? mem d s=some c) (hr:Qaz c=false) (hv:Qaz [nthD .any c o]=false) (d' s':Nat):box? (Go.Am.setCell mem d s o (nthD .any c o)) d' s'=box? mem d' s':=by
 rw [Qcy h hr hv]
 split
 ·rename_i q
  rw [q.1,q.2,h,QmU]
 ·rfl
theorem Qx1 {vs:List AV} {mem:MemT} {l:LL} {q:LB→AV×MemT} {b:LB} {v:AV} {mem':MemT} (h:QrB 104 vs mem=some (l,q)) (hq:q b=(v,mem'))
  {D:Nat} (M:Mem Tryz.prog B W0 w G mem) (hD:mem.length=D) {xs:List Value} (hx:ARepL Tryz.prog w G vs xs):QqQ Tryz.prog B W0 122 xs w G D v mem':=by
 unfold QrB at h
 split at h
 ·rename_i d s
  split at h
  ·rename_i T c1 hbx
   split at h
   ·rename_i hT
    have hT:T=104:=by simpa using hT
    subst hT
    simp only [Option.some.injEq,Prod.mk.injEq] at h
    obtain ⟨rfl,rfl⟩:=h
    simp only [Prod.mk.injEq] at hq
    obtain ⟨rfl,rfl⟩:=hq
    simp only [ARepL,ARep] at hx
    obtain ⟨v0,r,rfl,⟨bk,hbk,rfl⟩,rfl⟩:=hx
    obtain ⟨b',us,T',fz,R⟩:=M.box d s _ hbx
    obtain rfl:b'=bk:=by have:=R.blk.symm.trans hbk;simpa using this
    obtain ⟨u0,hu0,hone,hrep⟩:=(R.rep.plain rfl).2 0 (by simp)
    simp only [nthD,ARep] at hrep
    obtain ⟨d2,s2,b2,hp,hb2,hel,hu⟩:=hrep
    simp only [Place.cell.injEq] at hp
    obtain ⟨rfl,rfl,_⟩:=hp
    obtain rfl:b'=b2:=by have:=hbk.symm.trans hb2;simpa using this
    have hsz:us.size=2:=by have:=(R.rep.plain rfl).1;simpa using this
    have hTT:T'=104:=by
     unfold QaX World.shape? at hel
     rw [R.cells (Qbw rfl)] at hel
     simpa using hel
    subst hTT
    have hcell:=QmY (R.cells (Qbw rfl)) hu0
    unfold QqQ
    rcases hu with rfl|rfl
    ·have hsh:w.shape? b'=some (104,2):=by unfold World.shape?;rw [R.cells (Qbw rfl)];simp [hsz]
     have hfr:=(Qqa M hbk hbx rfl (o:=0) (by simp)).2
     refine (QuT b' w hcell hsh hfr).mono fun e w' he=> ?_
     obtain ⟨rfl,rfl⟩:=he
     have N:=QjO M hbk 0 (.pointer (some (Qas b' 0)))
     have M':=M.setCell hbk hbx rfl (o:=0) (v:= .bld 104) (u:= .pointer (some (Qas b' 0))) (by simp) rfl (by
      simp only [ARep]
      exact ⟨d,s,b',rfl,hbk,hel, .inr rfl⟩)
     have M2:=M'.congr (mem':=mem) fun d' s'=>(Qt5 (o:=0) hbx rfl rfl d' s').symm
     exact ⟨_,G,rfl,M2,hD,tup0 _ _,rfl,(N .none).keep,fun k _ _ _ hk=>(N _).own k hk,fun _ _ _ _ h=>h,(Below.refl B w).setCell R.lo _,fun _ _=>rfl,
      fun k _ hf=>⟨hf,rfl,Below.heap_setCell w _ _ k fun e=>hf.2 d s (by rw [hbk];exact congrArg some e.symm)⟩,fun _ _=>rfl⟩
    ·refine (Qwe b' w hcell).mono fun e w' he=> ?_
     obtain ⟨rfl,rfl⟩:=he
     exact ⟨_,G,rfl,M,hD,tup0 _ _,rfl,Keeps.refl _ _ _ _⟩
   ·cases h
  ·cases h
 ·cases h
theorem Qik (w:World) (g n k:Nat) (h:k≠g):(w.freeze ⟨g,0,none⟩ n).heap[k]?=w.heap[k]?:=by
 unfold World.freeze
 split
 ·rfl
 ·simp [Array.getElem?_modify,Ne.symm h]
theorem QkS (w:World) (a:Addr) (n:Nat):(w.freeze a n).heap.size=w.heap.size:=by
 unfold World.freeze
 split<;>simp
theorem QuR (w:World) (a:Addr) (n b o:Nat):(w.freeze a n).cell? (Qas b o)=w.cell? (Qas b o):=by
 unfold World.freeze
 split
 ·rfl
 ·simp only [World.cell?,Array.getElem?_modify]
  by_cases e:a.block=b
  ·subst e
   rw [if_pos rfl]
   cases w.heap[a.block]? with
   |none=>rfl
   |some x=>cases x<;>simp
  ·rw [if_neg e]
theorem QuI (w:World) (a:Addr) (n b:Nat):QaX (w.freeze a n) b=QaX w b:=by
 unfold World.freeze
 split
 ·rfl
 ·simp only [QaX,World.shape?,Array.getElem?_modify]
  by_cases e:a.block=b
  ·subst e
   rw [if_pos rfl]
   cases w.heap[a.block]? with
   |none=>rfl
   |some x=>cases x<;>simp
  ·rw [if_neg e]
def _root_.Go.Am.Gh.shut (G:Gh) (g:Nat):Gh:={G with own:=fun k=>if k=g then none else G.own k}
theorem Qou {g n:Nat} {p q:Am.Place} (h:G.own g=some p) (hq:q≠p):Same q w (w.freeze ⟨g,0,none⟩ n) G (G.shut g):=by
 refine ⟨⟨fun _=>Nat.le_refl _,fun b o _=>QuR w _ n b o,fun b e he=>by rw [QuI];exact he⟩,fun _ _ _ h=>h,fun b hb=> ?_⟩
 have hne:b≠g:=fun e=>by subst e;rw [h] at hb;exact hq (Option.some.inj hb).symm
 exact ⟨by simp [Gh.shut,hne,hb],rfl,Qik w g n b hne⟩
theorem Qv7 {P:Program} {mem:MemT} (M:Mem P B W0 w G mem) {g:Nat} (n:Nat) {p:Am.Place} (h:G.own g=some p) (hp:∀d s o,p≠ .cell d s o):Mem P B W0 (w.freeze ⟨g,0,none⟩ n) (G.shut g) mem:=by
 have hg:=M.own g p h
 have N:∀q,q≠p→Same q w (w.freeze ⟨g,0,none⟩ n) G (G.shut g):=fun q hq=>Qou h hq
 have hn0:Am.Place.none≠p:=fun e=>hg.2.2 e.symm
 refine ⟨Lib.below_freeze M.below hg.1 n,by rw [QkS];exact M.base,fun k q hk=> ?_,fun k hk=>M.hw k (by rw [QkS] at hk;exact hk),M.blk,fun d s cs hb=> ?_,M.inj,M.glob.keep (N _ hn0).keep⟩
 ·rw [QkS]
  by_cases e:k=g
  ·subst e;simp [Gh.shut] at hk
  ·simp [Gh.shut,e] at hk;exact M.own k q hk
 ·obtain ⟨b,vs,T,fz,R⟩:=M.box d s cs hb
  have hne:b≠g:=fun e=>by subst e;have:=R.own;rw [h] at this;cases this
  refine ⟨b,vs,T,fz,R.blk,R.lo,by rw [Qik w g n b hne];exact R.heap,R.free,R.hw,by simp [Gh.shut,hne,R.own],⟨R.rep.len,fun i hi=> ?_⟩⟩
  obtain ⟨u,q1,q2,q3⟩:=R.rep.rep i hi
  exact ⟨u,q1,q2,ARep.same (N _ (Ne.symm (hp _ _ _))) (N _ hn0) _ q3⟩
theorem Qex (B:Nat) (w:World):Below B w w.drew:=⟨rfl,rfl,rfl,Nat.le_refl _,fun _ _=>rfl⟩
theorem Qw2 {vs:List AV} {mem:MemT} {l:LL} {q:LB→AV×MemT} {b:LB} {v:AV} {mem':MemT} (h:Qo1 5 vs mem=some (l,q)) (hb:bytesOf l=some b) (hq:q b=(v,mem'))
  {D:Nat} (M:Mem Tryz.prog B W0 w G mem) (hD:mem.length=D) {xs:List Value} (hx:ARepL Tryz.prog w G vs xs):QqQ Tryz.prog B W0 74 xs w G D v mem':=by
 unfold Qo1 at h
 split at h
 ·rename_i d s
  split at h
  ·rename_i T n e l0 hbx
   split at h
   ·rename_i he
    have he:e=5:=by simpa using he
    subst he
    simp only [Option.some.injEq,Prod.mk.injEq] at h
    obtain ⟨rfl,rfl⟩:=h
    simp only [Prod.mk.injEq] at hq
    obtain ⟨rfl,rfl⟩:=hq
    simp only [ARepL,ARep] at hx
    obtain ⟨v0,r,rfl,⟨bk,hbk,rfl⟩,rfl⟩:=hx
    obtain ⟨b',us,T',fz,R⟩:=M.box d s _ hbx
    obtain rfl:b'=bk:=by have:=R.blk.symm.trans hbk;simpa using this
    obtain ⟨u1,hu1,hone,hrep⟩:=(R.rep.plain rfl).2 1 (by simp)
    have c1:=QmY (R.cells (Qbw rfl)) hu1
    have hlt:b'<w.heap.size:=R.lt
    have M1:Mem Tryz.prog B W0 w G (Go.Am.setCell mem d s 1 (.val (.list n l0))):=M.weakCell hbx rfl rfl fun u hu=>hu.copy
    have hD1:(Go.Am.setCell mem d s 1 (.val (.list n l0))).length=D:=by rw [QdD];exact hD
    have hlb:l0=b.map fun c=> [CV.int .u8 c.toNat]:=QjT hb
    have hll:l0.length=b.length:=by rw [hlb];simp
    have strR:∀(w':World) (G':Gh),ARep Tryz.prog w' G' .none (.val (.str b)) (.string ⟨b.toArray⟩):=fun _ _=>by simp [ARep,CRep]
    have simple:∀w':World,w'.heap=w.heap→Below B w w'→(∀e w2,(e=Ending.returned (.string ⟨#[]⟩)∧w2=w')→b= []→∃x G',e= .returned x∧Mem Tryz.prog B W0 w2 G' (Go.Am.setCell mem d s 1 (.val (.list n l0)))∧(Go.Am.setCell mem d s 1 (.val (.list n l0))).length=D∧ARep Tryz.prog w2 G' .none (.val (.str b)) x∧(AV.val (.str b)).copy= .val (.str b)∧Keeps B D w w2 G G'):=by
     intro w' hh hbl e w2 ⟨h1,h2⟩ h0
     subst h1 h2
     refine ⟨_,G,rfl,M1.sameHeap hh hbl,hD1, ?_,rfl,Keeps.sameHeap hh hbl⟩
     rw [h0];simp [ARep,CRep]
    unfold QqQ
    simp only [nthD,ARep] at hrep
    rcases hrep with ⟨rfl,rfl,rfl⟩|⟨g1,g,off,cap,gs,g3,g4,g5,g6,g7⟩
    ·have h0:b= []:=by simpa using hll.symm
     exact (QvC b' w c1).mono fun e w' he=>simple w.drew rfl (Qex _ _) e w' he h0
    ·obtain rfl:=gs.exact (.inl rfl)
     rcases g7 with ⟨g7,_⟩|⟨_,ho,rfl,hm,hcm,cur,hcur,hcs⟩
     ·cases g7
     ·have e5:Tryz.prog.cellsOf 5=1:=Tryz.cellsU8
      rw [e5,Nat.mul_one] at hcs hm g5
      by_cases h0:l0= []
      ·have hb0:b= []:=by rw [h0] at hll;simpa using hll.symm
       have hz:l0.length=0:=by rw [h0];rfl
       rw [hz] at c1
       by_cases hc0:cap=0
       ·subst hc0
        refine (QsC b' g cur w hlt c1 hcur).mono fun e w' he=> ?_
        obtain ⟨rfl,rfl⟩:=he
        have M2:=(M1.sameHeap (w':=w.drew) rfl (Qex _ _)).pub (.view ⟨g,0,none⟩ 5) 0 none (fun _ h=>by cases h)
        have K2:=(Keeps.sameHeap (d:=D) (G:=G) (w:=w) (w':=w.drew) rfl (Qex B w)).trans (Keeps.pub (d:=D) (M1.sameHeap (w':=w.drew) rfl (Qex _ _)) (.view ⟨g,0,none⟩ 5) 0 none)
        exact ⟨_,_,rfl,M2,hD1,by rw [hb0];simp [ARep,CRep],rfl,K2⟩
       ·exact (Qut b' g cap w hc0 c1).mono fun e w' he=>simple w.drew rfl (Qex _ _) e w' he hb0
      ·have hbl:b.length≤cap:=by omega
       rw [hll] at c1
       refine (Qwa b' g cap b cur w c1 hcur (fun e=>h0 (by rw [hlb,e];rfl)) hbl hcm hcs (fun j x hj=> ?_)).mono fun e w' he=> ?_
       ·have hj2:l0[j]?=some [CV.int .u8 x.toNat]:=by rw [hlb];simp [hj]
        have:=CRepLL.get g4 g6 hj2
        obtain ⟨v1,q1,_,q3⟩:=this.get (i:=0) rfl
        rw [e5] at q1
        simp only [CRep] at q3
        subst q3
        simpa using q1
       ·obtain ⟨rfl,rfl⟩:=he
        have M2:Mem Tryz.prog B W0 w.drew G (Go.Am.setCell mem d s 1 (.val (.list n l0))):=M1.sameHeap rfl (Qex _ _)
        have M3:=M2.moveCell (q:= .tmp D 0) ho (by simp) (fun c hc=>by
         rw [Qcy hbx rfl rfl,if_pos ⟨rfl,rfl⟩] at hc
         simp only [Option.some.injEq] at hc
         rw [←hc]
         exact ⟨rfl,rfl⟩)
        have ho3:(G.move g (.tmp D 0)).own g=some (.tmp D 0):=by simp [Gh.move]
        have M4:=Qv7 M3 b.length ho3 (fun _ _ _=>by simp)
        have hgB:B≤g:=(M.own g _ ho).1
        refine ⟨_,_,rfl,M4,hD1,strR _ _,rfl,⟨(Qfm (G:=G) (w:=w) (w':=w.drew) rfl .none).keep.trans (Qou (w:=w.drew) ho3 (q:= .none) (by simp)).keep,fun k d' i hd hk=> ?_,fun _ _ _ _ h=>h,Lib.below_freeze (Qex B w) hgB _,fun _ _=>rfl,fun k _ hf=> ?_,fun _ _=>rfl⟩⟩
        case refine_2=>
         have hne:k≠g:=fun e=>by subst e;have:=hf.1;rw [ho] at this;cases this
         exact ⟨⟨by simp [Gh.shut,Gh.move,hne,hf.1],hf.2⟩,rfl,Qik w.drew g _ k hne⟩
        have hne:k≠g:=fun e=>by subst e;rw [ho] at hk;cases hk
        exact ⟨by simp [Gh.shut,Gh.move,hne,hk],rfl,Qik w.drew g _ k hne⟩
   ·cases h
  ·cases h
 ·cases h
end Go.Proofs
