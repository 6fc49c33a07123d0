/- The operations of the abstract machine that make or write memory. Conditions: none. -/
import Derived.Test.YtigmcfhmpcajlaaGreatDoorAmA
import Derived.Laws.AppendOwn
import Derived.Lib.ConvBytes
import Derived.IntWalk
import Derived.MapFrom
import Derived.Laws.StructEq
namespace Go.Am
open Go.RowKit
variable {P:Program} {B:Nat} {W0:Base} {d:Nat} {σ:St} {a:Act} {w:World} {G:Gh} {β:Type} {call:FuncId→List CV→Option CV}
 {acc:List Loc} {r:β} {o:Oper} {ops:List Oper}
theorem Qfm {w':World} (h:w'.heap=w.heap) (q:Place):Same q w w' G G:=
 ⟨⟨fun _=>Nat.le_refl _,fun b o _=>cell?_of_heap (by rw [h]) o,fun b e he=>(Qcc (w:=w) (w':=w') (by rw [h])).trans he⟩,fun _ _ _ h=>h,fun b hb=>⟨hb,rfl,by rw [h]⟩⟩
theorem Mem.sameHeap {mem:MemT} (M:Mem P B W0 w G mem) {w':World} (h:w'.heap=w.heap) (hb:Below B w w'):Mem P B W0 w' G mem:=by
 refine ⟨M.below.trans hb,by rw [h];exact M.base,fun b p hp=>by rw [h];exact M.own b p hp,fun b hh=>M.hw b (by rw [h] at hh;exact hh),M.blk,fun d s cs hbx=> ?_,M.inj,M.glob.keep (Qfm (G:=G) h .none).keep⟩
 obtain ⟨b,vs,T,fz,R⟩:=M.box d s cs hbx
 refine ⟨b,vs,T,fz,R.blk,R.lo,by rw [h];exact R.heap,R.free,R.hw,R.own,⟨R.rep.len,fun i hi=> ?_⟩⟩
 obtain ⟨u,q1,q2,q3⟩:=R.rep.rep i hi
 exact ⟨u,q1,q2,ARep.same (Qfm h _) (Qfm h _) _ q3⟩
theorem Qsq {w':World} (h:w'.heap=w.heap):Rest w w' G G:=fun _ _ hf=>⟨hf,rfl,by rw [h]⟩
theorem Sim.sameHeap (S:Sim P B W0 d σ a w G) {w':World} (h:w'.heap=w.heap) (hb:Below B w w'):Sim P B W0 d σ a w' G:=
 ⟨S.mem.sameHeap h hb,S.depth,⟨S.fr.len,fun i=>ARep.same (Qfm h _) (Qfm h _) _ (S.fr.rep i)⟩,S.cfg,S.marks.of (Qsq h) rfl (by rw [h];exact Nat.le_refl _)⟩
theorem Keeps.sameHeap {w':World} (h:w'.heap=w.heap) (hb:Below B w w'):Keeps B d w w' G G:=
 ⟨(Qfm (G:=G) h .none).keep,fun b d' i _ hp=>⟨hp,rfl,by rw [h]⟩,fun _ _ _ _ h=>h,hb,fun _ _=>rfl,fun _ _ hf=>⟨hf,rfl,by rw [h]⟩,fun _ _=>rfl⟩
def Gh.pub (G:Gh) (b n:Nat) (p:Option Place):Gh:=
 {G with hw:=fun k=>if k=b then n else G.hw k,own:=fun k=>if k=b then p else G.own k}
theorem Qgx {mem:MemT} (M:Mem P B W0 w G mem) (ob:Obj) (n:Nat) (p:Option Place) (q:Place):Same q w (w.alloc ob) G (G.pub w.heap.size n p):=by
 refine ⟨⟨fun b=> ?_,fun b i hi=> ?_,fun b e he=>by rw [Qcc (Below.heap_alloc w ob b (QgM he))];exact he⟩,fun _ _ _ h=>h,fun b hb=> ?_⟩
 ·show G.hw b≤if b=w.heap.size then n else G.hw b
  split
  ·rename_i h;rw [M.hw b (by omega)];omega
  ·exact Nat.le_refl _
 ·have:b<w.heap.size:=Decidable.byContradiction fun h=>by rw [M.hw b (by omega)] at hi;omega
  exact cell?_of_heap (Below.heap_alloc w ob b this) i
 ·have hlt:=(M.own b _ hb).2.1
  have hne:b≠w.heap.size:=by omega
  exact ⟨by simp [Gh.pub,hne,hb],by simp [Gh.pub,hne],Below.heap_alloc w ob b hlt⟩
theorem Mem.pub {mem:MemT} (M:Mem P B W0 w G mem) (ob:Obj) (n:Nat) (p:Option Place) (hp:∀q,p=some q→q≠ .none):Mem P B W0 (w.alloc ob) (G.pub w.heap.size n p) mem:=by
 have hsz:(w.alloc ob).heap.size=w.heap.size+1:=by simp
 refine ⟨M.below.alloc M.base ob,by rw [hsz];have:=M.base;omega,fun b q hq=> ?_,fun b hb=> ?_,M.blk,fun d s cs hbx=> ?_,M.inj,M.glob.keep (Qgx M ob n p .none).keep⟩
 ·by_cases e:b=w.heap.size
  ·subst e
   simp [Gh.pub] at hq
   exact ⟨M.base,by rw [hsz];omega,hp q hq⟩
  ·simp [Gh.pub,e] at hq
   have:=M.own b q hq
   exact ⟨this.1,by rw [hsz];omega,this.2.2⟩
 ·rw [hsz] at hb
  have:b≠w.heap.size:=by omega
  simp [Gh.pub,this,M.hw b (by omega)]
 ·obtain ⟨b,vs,T,fz,R⟩:=M.box d s cs hbx
  have hlt:b<w.heap.size:=R.lt
  have hne:b≠w.heap.size:=by omega
  refine ⟨b,vs,T,fz,R.blk,R.lo,by rw [Below.heap_alloc w ob b hlt];exact R.heap,R.free,by simp [Gh.pub,hne,R.hw],by simp [Gh.pub,hne,R.own],⟨R.rep.len,fun i hi=> ?_⟩⟩
  obtain ⟨u,q1,q2,q3⟩:=R.rep.rep i hi
  exact ⟨u,q1,q2,ARep.same (Qgx M ob n p _) (Qgx M ob n p _) _ q3⟩
theorem Qxz (ob:Obj) (n:Nat) (p:Option Place):Rest w (w.alloc ob) G (G.pub w.heap.size n p):=fun b hb hf=>
 ⟨⟨by simp [Gh.pub,show b≠w.heap.size by omega,hf.1],hf.2⟩,by simp [Gh.pub,show b≠w.heap.size by omega],Below.heap_alloc w ob b hb⟩
theorem Sim.pub (S:Sim P B W0 d σ a w G) (ob:Obj) (n:Nat) (p:Option Place) (hp:∀q,p=some q→q≠ .none):Sim P B W0 d σ a (w.alloc ob) (G.pub w.heap.size n p):=
 ⟨S.mem.pub ob n p hp,S.depth,⟨S.fr.len,fun i=>ARep.same (Qgx S.mem ob n p _) (Qgx S.mem ob n p _) _ (S.fr.rep i)⟩,S.cfg,S.marks.of (Qxz ob n p)⟩
theorem Keeps.pub {mem:MemT} (M:Mem P B W0 w G mem) (ob:Obj) (n:Nat) (p:Option Place):Keeps B d w (w.alloc ob) G (G.pub w.heap.size n p):=
 ⟨(Qgx M ob n p .none).keep,fun b _ _ _ hb=>(Qgx M ob n p _).own b hb,fun _ _ _ _ h=>h,(Below.refl B w).alloc M.base ob,fun b hb=>by have:=M.base;simp [Gh.pub,show b≠w.heap.size by omega],
   fun b hb hf=>⟨⟨by simp [Gh.pub,show b≠w.heap.size by omega,hf.1],hf.2⟩,by simp [Gh.pub,show b≠w.heap.size by omega],Below.heap_alloc w ob b hb⟩,fun _ _=>rfl⟩
theorem CRepC.of_cells {w:World} {h:Hw} {b:Nat}:∀{c:List CV} {us:List Value} {off:Nat},(∀i u,us[i]?=some u→w.cell? (Qas b (off+i))=some u)→CRepV w h c us→CRepC w h b off c
 | [],us,off,_,_=>by simp [CRepC]
 |x::c,us,off,hc,hr=>by
  simp only [CRepV] at hr
  obtain ⟨v,s,rfl,h2,h3,h4⟩:=hr
  simp only [CRepC]
  refine ⟨⟨v,by simpa using hc 0 v (by simp),h2,h3⟩,CRepC.of_cells (us:=s) (fun i u hi=> ?_) h4⟩
  have:=hc (i+1) u (by simpa using hi)
  rw [←Nat.add_assoc,Nat.add_right_comm] at this
  exact this
theorem CRepV.append {w:World} {h:Hw}:∀{c e:List CV} {us vs:List Value},CRepV w h c us→CRepV w h e vs→CRepV w h (c++e) (us++vs)
 | [],e,us,vs,h1,h2=>by simp only [CRepV] at h1;subst h1;simpa using h2
 |x::c,e,us,vs,h1,h2=>by
  simp only [CRepV] at h1
  obtain ⟨v,s,rfl,q1,q2,q3⟩:=h1
  simp only [List.cons_append,CRepV]
  exact ⟨v,_,rfl,q1,q2,q3.append h2⟩
theorem CRepLL.of_cells {w:World} {h:Hw} {b:Nat}:∀{l:List (List CV)} {us:List Value} {off:Nat},(∀i u,us[i]?=some u→w.cell? (Qas b (off+i))=some u)→CRepV w h l.flatten us→CRepLL w h b off l
 | [],us,off,_,_=>by simp [CRepLL]
 |c::l,us,off,hc,hr=>by
  simp only [List.flatten_cons] at hr
  have split:∀{c e:List CV} {us:List Value},CRepV w h (c++e) us→CRepV w h c (us.take c.length)∧CRepV w h e (us.drop c.length):=by
   intro c
   induction c with
   |nil=>intro e us h;exact ⟨by simp [CRepV],by simpa using h⟩
   |cons x c ih=>
    intro e us h
    simp only [List.cons_append,CRepV] at h
    obtain ⟨v,s,rfl,q1,q2,q3⟩:=h
    obtain ⟨r1,r2⟩:=ih q3
    refine ⟨?_,by simpa using r2⟩
    simp only [List.length_cons,List.take_succ_cons,CRepV]
    exact ⟨v,_,rfl,q1,q2,r1⟩
  obtain ⟨h1,h2⟩:=split hr
  simp only [CRepLL]
  refine ⟨CRepC.of_cells (us:=us.take c.length) (fun i u hi=> ?_) h1,CRepLL.of_cells (us:=us.drop c.length) (fun i u hi=> ?_) h2⟩
  ·rw [List.getElem?_take] at hi
   split at hi
   ·exact hc i u hi
   ·simp at hi
  ·rw [List.getElem?_drop] at hi
   rw [Nat.add_assoc]
   exact hc _ u hi
theorem QjQ (w:World) (c:Array Value) (t:TypeId) (fz:Nat×Nat) (i:Nat):(w.alloc (.cells c t fz)).cell? (Qas w.heap.size i)=c[i]?:=by
 unfold World.cell?
 simp only [heap_alloc_new]
 simp
theorem Qv9 (w:World) (c:Array Value) (t:TypeId) (n k:Nat) (hk:k≠0):(w.alloc (.cells c t)).freeze ⟨w.heap.size,n,none⟩ k=w.alloc (.cells c t (n,n+k)):=by
 simp only [World.freeze,hk,if_false,World.alloc]
 congr 1
 apply Array.ext
 ·simp
 ·intro i h1 h2
  simp only [Array.getElem_modify,Array.size_modify,Array.size_push] at h1⊢
  by_cases e:w.heap.size=i
  ·subst e
   simp
  ·simp [e,Array.getElem_push,(by omega:i<w.heap.size)]
theorem QjT:∀{l:List (List CV)} {b:List UInt8},bytesOf l=some b→l=b.map fun c=> [CV.int .u8 c.toNat]
 | [],b,h=>by simp [bytesOf] at h;subst h;rfl
 |c::l,b,h=>by
  simp only [bytesOf] at h
  split at h
  ·rename_i n
   split at h
   ·rename_i q
    cases hh:bytesOf l with
    |none=>simp [hh] at h
    |some s=>
     simp [hh] at h
     subst h
     rw [QjT hh]
     simp only [List.map_cons,List.cons.injEq,and_true]
     have:n.toNat<256:=by omega
     simp [Nat.mod_eq_of_lt this]
     omega
   ·simp at h
  ·simp at h
theorem Ql4 {P:Program} (w:World) {b off:Nat} {len cap:Nat} {s:List UInt8} (hl:len=s.length)
  (hc:∀i x,s[i]?=some x→w.cell? (Qas b (off+i))=some (.int .u8 x.toNat)):
  (Conv.bytesToString (.slice (some (Qas b off)) len cap)).run P w= .ok (.string ⟨s.toArray⟩) w:=by
 have h1:=run_loadCells_list (P:=P) w (Qas b off) ((s.map fun x=>(x.toNat:Int)).map (Value.int .u8)) (fun j v hj=>by
  simp only [List.map_map,List.getElem?_map] at hj
  cases hx:s[j]? with
  |none=>simp [hx] at hj
  |some x=>simp [hx] at hj;rw [Qbi,hc j x hx,←hj])
 rw [List.length_map,List.length_map,←hl] at h1
 rw [run_bytesToString w _ len cap (s.map fun x=>(x.toNat:Int)) (by rw [h1])]
 congr 2
 have key:∀(l:List UInt8) (acc:ByteArray),((l.map fun x=>(x.toNat:Int)).foldl (fun r n=>r.push (UInt8.ofNat n.toNat)) acc)=⟨(acc.data.toList++l).toArray⟩:=by
  intro l
  induction l with
  |nil=>intro acc;simp
  |cons x l ih=>
   intro acc
   simp only [List.map_cons,List.foldl_cons]
   rw [ih]
   simp [ByteArray.push]
 rw [key]
 simp
theorem QvS (S:Sim P B W0 d σ a w G) {s t:TypeId} {x:Operand} (ho:o.op= .convert s t x) {k:List W→List Loc→Option β}
  (h:(opM P d ops o).exec call σ acc k=some r):OpDone P B W0 d o σ a w G k r:=by
 unfold opM at h
 rw [ho] at h
 simp only [M.exec_bind'] at h
 obtain ⟨v,acc',h,hv⟩:=QaC S _ h
 unfold Qyk at h
 split at h
 ·rename_i k1 k2 h1 h2
  simp only [M.exec_bind'] at h
  obtain ⟨c,h,hc⟩:=QaH hv h
  simp only [M.exec] at h
  obtain ⟨n,hn,h⟩:=Qag h
  rw [QbW hn] at hc
  simp only [CRep] at hc
  refine OpDone.pure (x:= .int k2 (k2.wrap n)) S h ?_ fun t _=>by simp only [AV.copy,ARep,CRep]
  simp [execOp,ho,hc,convert,run_underlying h1,run_underlying h2,Conv.intToInt]
 ·rename_i k1 h1 h2
  simp only [M.exec_bind'] at h
  obtain ⟨c,h,hc⟩:=QaH hv h
  simp only [M.exec] at h
  obtain ⟨n,hn,h⟩:=Qag h
  rw [QbW hn] at hc
  simp only [CRep] at hc
  refine OpDone.pure (x:= .string (Utf8.encode n)) S h ?_ fun t _=>by simp only [AV.copy,ARep,CRep]
  simp [execOp,ho,hc,convert,run_underlying h1,run_underlying h2,Conv.intToString]
 ·rename_i h1 h2
  simp only [M.exec_bind'] at h
  obtain ⟨c,h,hc⟩:=QaH hv h
  simp only [M.exec] at h
  obtain ⟨n,hn,h⟩:=Qag h
  rw [QcU hn] at hc
  simp only [CRep] at hc
  refine OpDone.pure (x:= .string ⟨n.toArray⟩) S h ?_ fun t _=>by simp only [AV.copy,ARep,CRep]
  simp [execOp,ho,hc,convert,run_underlying h1,run_underlying h2]
 ·rename_i e h1 h2
  split at h
  ·rename_i h3
   simp only [M.exec_bind'] at h
   obtain ⟨c,h,hc⟩:=QaH hv h
   simp only [M.exec] at h
   obtain ⟨p,hp,h⟩:=Qag h
   obtain ⟨b,hb,h⟩:=Qag h
   rw [Qfq hp] at hc
   simp only [CRep] at hc
   have hl:=QjT hb
   refine OpDone.pure (x:= .string ⟨b.toArray⟩) S h ?_ fun t _=>by simp only [AV.copy,ARep,CRep]
   rcases hc with ⟨_,q2,q3⟩|⟨_,bb,off,cap,es,q2,q3,q4,q5,q6⟩
   ·have:b= []:=by rw [q2] at hl;simpa using hl.symm
    subst this
    simp [execOp,ho,q3,convert,run_underlying h1,run_underlying h2,run_underlying h3,Conv.bytesToString]
    rfl
   ·have e1:∀i x,b[i]?=some x→w.cell? (Qas bb (off+i))=some (.int .u8 x.toNat):=by
     intro i x hx
     have hi:p.2[i]?=some [CV.int .u8 x.toNat]:=by rw [hl];simp [hx]
     have hes:es=1:=by rw [←q4 _ (List.mem_of_getElem? hi)];rfl
     have:=q6.get q4 hi
     rw [hes] at this
     simp only [CRepC,CRep,Nat.mul_one] at this
     obtain ⟨⟨v,r1,_,r2⟩,_⟩:=this
     rw [r1,r2]
    have hlen:p.2.length=b.length:=by rw [hl];simp
    by_cases hb0:b= []
    ·obtain ⟨ad1,q2,_⟩:=q2
     subst hb0
     have hz:p.2.length=0:=by simpa using hlen
     rw [hz] at q2
     simp [execOp,ho,q2,convert,run_underlying h1,run_underlying h2,run_underlying h3,Conv.bytesToString]
     rfl
    have q2:=q2.exact (.inr (by have:=List.length_pos_iff.2 hb0;omega))
    have:=Ql4 (P:=P) w (cap:=cap) hlen e1
    simp [execOp,ho,q2,convert,run_underlying h1,run_underlying h2,run_underlying h3,this]
  ·simp [M.exec] at h
 ·rename_i e h1 h2
  split at h
  ·rename_i h3
   simp only [M.exec_bind'] at h
   obtain ⟨c,h,hc⟩:=QaH hv h
   simp only [M.exec] at h
   obtain ⟨b,hb,h⟩:=Qag h
   obtain ⟨hle,h⟩:=Qaf h
   rw [QcU hb] at hc
   simp only [CRep] at hc
   have hrun:=Lib.run_convert_string_bytes (P:=P) w s t e ⟨b.toArray⟩ h1 h2 h3
   have hw:Lib.bytesWorld w e ⟨b.toArray⟩=w.drew.alloc (.cells (Lib.bytesCells w e ⟨b.toArray⟩) e ((Lib.bytesCells w e ⟨b.toArray⟩).size,(Lib.bytesCells w e ⟨b.toArray⟩).size+1)):=by
    unfold Lib.bytesWorld
    exact Qv9 w.drew _ _ _ _ (by omega)
   rw [hw] at hrun
   have hsz:(⟨b.toArray⟩:ByteArray).size=b.length:=by simp [ByteArray.size]
   rw [hsz] at hrun
   have S1:=S.sameHeap (w':=w.drew) rfl (Below.refl B w).drew
   have S2:=S1.pub (.cells (Lib.bytesCells w e ⟨b.toArray⟩) e ((Lib.bytesCells w e ⟨b.toArray⟩).size,(Lib.bytesCells w e ⟨b.toArray⟩).size+1)) b.length none (by simp)
   have K2:=(Keeps.sameHeap (d:=d) (G:=G) (w:=w) (w':=w.drew) rfl (Below.refl B w).drew).trans (Keeps.pub S1.mem (.cells (Lib.bytesCells w e ⟨b.toArray⟩) e ((Lib.bytesCells w e ⟨b.toArray⟩).size,(Lib.bytesCells w e ⟨b.toArray⟩).size+1)) b.length none)
   refine OpDone.value h (x:= .slice (some (Qas w.heap.size 0)) b.length (grownCap w b.length 0 e)) ?_ (S2.put o fun t' _=> ?_) K2
   ·simp only [execOp,ho,hc,Sem.run_bind,hrun]
    rfl
   ·simp only [AV.copy,ARep,CRep]
    refine .inr ⟨trivial,w.heap.size,0,grownCap w b.length 0 e,1, .mk (by simp), ?_, ?_, ?_, ?_⟩
    ·simp only [List.length_map];exact grownCap_ge w b.length 0 e
    ·intro c hcm
     simp only [List.mem_map] at hcm
     obtain ⟨x,_,rfl⟩:=hcm
     rfl
    ·simp [Gh.pub]
    ·refine CRepLL.of_cells (us:=b.map fun x=>Value.int .u8 x.toNat) (fun i u hi=> ?_) ?_
     ·have e1:=QjQ w.drew (Lib.bytesCells w e ⟨b.toArray⟩) e ((Lib.bytesCells w e ⟨b.toArray⟩).size,(Lib.bytesCells w e ⟨b.toArray⟩).size+1) (0+i)
      have e2:w.drew.heap.size=w.heap.size:=rfl
      rw [e2] at e1
      rw [e1,Nat.zero_add]
      have hlt:i<b.length:=by have:=(List.getElem?_eq_some_iff.1 hi).1;simpa using this
      unfold Lib.bytesCells
      rw [Array.getElem?_append_left (by simpa using hlt)]
      simpa using hi
     ·have:∀(l:List UInt8) {w':World} {hh:Hw},CRepV w' hh (l.map fun c=> [CV.int .u8 (c.toNat:Int)]).flatten (l.map fun x=>Value.int .u8 x.toNat):=by
       intro l
       induction l with
       |nil=>intro w' hh;simp [CRepV]
       |cons x l ih=>
        intro w' hh
        simp only [List.map_cons,List.flatten_cons,List.cons_append,List.nil_append,CRepV]
        exact ⟨_,_,rfl,rfl,by simp only [CRep],ih⟩
      exact this b
  ·simp [M.exec] at h
 ·simp [M.exec] at h
def Gh.put (G:Gh) (d s b:Nat):Gh:={G with blk:=fun d' s'=>if d'=d∧s'=s then some b else G.blk d' s'}
theorem Qps {mem:MemT} (M:Mem P B W0 w G mem) (ob:Obj) {d s:Nat} (hb:box? mem d s=none) (q:Place):Same q w (w.alloc ob) G (G.put d s w.heap.size):=by
 refine ⟨⟨fun _=>Nat.le_refl _,fun b i hi=> ?_,fun b e he=>by rw [Qcc (Below.heap_alloc w ob b (QgM he))];exact he⟩,fun d' s' b h=> ?_,fun b h=>⟨h,rfl,Below.heap_alloc w ob b (M.own b _ h).2.1⟩⟩
 ·have:b<w.heap.size:=Decidable.byContradiction fun h=>by rw [M.hw b (by omega)] at hi;omega
  exact cell?_of_heap (Below.heap_alloc w ob b this) i
 ·have:¬(d'=d∧s'=s):=fun e=>by rw [e.1,e.2,M.blk d s hb] at h;simp at h
  simp [Gh.put,this,h]
theorem Mem.newBox {mem:MemT} (M:Mem P B W0 w G mem) {d s:Nat} {cs:List AV} {us:List Value} {T:TypeId} (hb:box? mem d s=none) (hd:d<mem.length) (hs:s<(nthD [] mem d).length)
  (hc:CellsRep P w G d s cs us) (hm:Qc9 cs=false):Mem P B W0 (w.alloc (.cells us.toArray T)) (G.put d s w.heap.size) (QaI mem d s cs):=by
 have hsz:(w.alloc (.cells us.toArray T)).heap.size=w.heap.size+1:=by simp
 have N:=Qps M (.cells us.toArray T) hb
 refine ⟨M.below.alloc M.base _,by rw [hsz];have:=M.base;omega,fun b q hq=> ?_,fun b hb'=>M.hw b (by rw [hsz] at hb';omega),fun d' s' h=> ?_,fun d' s' c h=> ?_,fun d1 s1 d2 s2 b h1 h2=> ?_,M.glob.keep (N .none).keep⟩
 ·have:=M.own b q hq
  exact ⟨this.1,by rw [hsz];omega,this.2.2⟩
 ·rw [Qa4] at h
  split at h
  ·simp at h
  ·rename_i e
   have e':¬(d'=d∧s'=s):=fun q=>e ⟨q.1,q.2,hd,hs⟩
   simp only [Gh.put,e',if_false]
   exact M.blk d' s' h
 ·rw [Qa4] at h
  split at h
  ·rename_i e
   simp only [Option.some.injEq] at h
   subst h
   obtain ⟨rfl,rfl,_,_⟩:=e
   refine ⟨w.heap.size,us.toArray,T,(0,0),by simp [Gh.put],M.base,Qix (heap_alloc_new w _) hm,fun i _=>by omega,M.hw _ (Nat.le_refl _), ?_,⟨hc.len,fun i hi=> ?_⟩⟩
   ·cases ho:G.own w.heap.size with
    |none=>exact ho
    |some q=>have:=(M.own _ _ ho).2.1;omega
   ·obtain ⟨u,q1,q2,q3⟩:=hc.rep i hi
    exact ⟨u,by simpa using q1,q2,ARep.same (N _) (N _) _ q3⟩
  ·rename_i e
   obtain ⟨b,vs,T',fz,R⟩:=M.box d' s' c h
   have hlt:b<w.heap.size:=R.lt
   refine ⟨b,vs,T',fz,(N .none).blk d' s' b R.blk,R.lo,by rw [Below.heap_alloc w _ b hlt];exact R.heap,R.free,R.hw,R.own,⟨R.rep.len,fun i hi=> ?_⟩⟩
   obtain ⟨u,q1,q2,q3⟩:=R.rep.rep i hi
   exact ⟨u,q1,q2,ARep.same (N _) (N _) _ q3⟩
 ·
  have old:∀{d' s' b'},G.blk d' s'=some b'→b'<w.heap.size:=fun h=>by
   obtain ⟨_,_,_,_,_,R⟩:=M.blk_box h
   exact R.lt
  simp only [Gh.put] at h1 h2
  split at h1<;>split at h2
  ·rename_i p q;exact ⟨p.1.trans q.1.symm,p.2.trans q.2.symm⟩
  ·simp only [Option.some.injEq] at h1;have:=old h2;omega
  ·simp only [Option.some.injEq] at h2;have:=old h1;omega
  ·exact M.inj _ _ _ _ _ h1 h2
theorem Sim.newBox0 (S:Sim P B W0 d σ a w G) {s:Nat} {cs:List AV} {us:List Value} {T:TypeId} (hb:box? σ.mem d s=none) (hs:s<(nthD [] σ.mem d).length)
  (hc:CellsRep P w G d s cs us) (hm:Qc9 cs=false):
  Sim P B W0 d {σ with mem:=QaI σ.mem d s cs} a (w.alloc (.cells us.toArray T)) (G.put d s w.heap.size)∧
   Keeps B d w (w.alloc (.cells us.toArray T)) G (G.put d s w.heap.size):=by
 have hd:d<σ.mem.length:=by rw [S.depth];omega
 have N:=Qps S.mem (.cells us.toArray T) hb
 have S1:Sim P B W0 d {σ with mem:=QaI σ.mem d s cs} a (w.alloc (.cells us.toArray T)) (G.put d s w.heap.size):=
  ⟨S.mem.newBox hb hd hs hc hm,by rw [Qcf];exact S.depth,⟨S.fr.len,fun i=>ARep.same (N _) (N _) _ (S.fr.rep i)⟩,S.cfg,S.marks.of fun k hk hf=>⟨⟨hf.1,fun d' s' hb'=>by
   simp only [Gh.put] at hb'
   split at hb'
   ·simp only [Option.some.injEq] at hb';omega
   ·exact hf.2 d' s' hb'⟩,rfl,Below.heap_alloc w _ k hk⟩⟩
 refine ⟨S1,(N .none).keep,fun b d' i _ h=>(N _).own b h,fun d' s' b hd' hb'=> ?_,(Below.refl B w).alloc S.mem.base _,fun _ _=>rfl,fun k hk hf=>⟨⟨hf.1,fun d' s' hb'=> ?_⟩,rfl,Below.heap_alloc w _ k hk⟩,fun _ _=>rfl⟩
 case refine_2=>
  simp only [Gh.put] at hb'
  split at hb'
  ·simp only [Option.some.injEq] at hb';omega
  ·exact hf.2 d' s' hb'
 have:¬(d'=d∧s'=s):=by omega
 simp [Gh.put,this,hb']
theorem Sim.newBox (S:Sim P B W0 d σ a w G) {s:Nat} {cs:List AV} {us:List Value} {T:TypeId} (hb:box? σ.mem d s=none) (hs:s<(nthD [] σ.mem d).length)
  (hc:∀pl,Cells P w G pl cs us):
  Sim P B W0 d (Qau σ [.box d s cs, .tmp s (.ptr d s 0)]) (a.put (some s) (.pointer (some (Qas w.heap.size 0)))) (w.alloc (.cells us.toArray T)) (G.put d s w.heap.size)∧
   Keeps B d w (w.alloc (.cells us.toArray T)) G (G.put d s w.heap.size):=by
 obtain ⟨S1,K1⟩:=S.newBox0 (T:=T) hb hs (hc fun i=> .cell d s i).rep_of (Qbw (hc fun i=> .cell d s i).notRow)
 exact ⟨S1.setTmp (by simp only [ARep];exact ⟨w.heap.size,by simp [Gh.put],rfl⟩),K1⟩
theorem Qt4 {c:AV} {v:Value} (h:QtS c v=true) (p:Place):v.oneCell'=true∧ARep P w G p c v:=by
 unfold QtS at h
 split at h
 ·simp at h;subst h;simp [ARep,CRep,Value.oneCell']
 ·simp at h;obtain ⟨rfl,rfl⟩:=h;simp [ARep,CRep,Value.oneCell']
 ·rename_i s b
  simp at h
  obtain ⟨rfl,h⟩:=h
  refine ⟨rfl, ?_⟩
  simp [ARep,CRep,h]
  rfl
 ·simp [ARep,Value.oneCell']
 ·simp [ARep,CRep,Value.oneCell']
 ·simp [ARep,CRep,Value.oneCell']
 ·simp [ARep,CRep,Value.oneCell']
 ·simp at h
theorem Qgv:∀{cs:List AV} {vs:List Value},QfT cs vs=true→∀pl,Cells P w G pl cs vs
 | [], [],_,pl=>Cells.nil
 | [],_::_,h,_=>by simp [QfT] at h
 |_::_, [],h,_=>by simp [QfT] at h
 |c::cs,v::vs,h,pl=>by
  simp only [QfT,Bool.and_eq_true] at h
  have h1:=Qt4 (P:=P) (w:=w) (G:=G) h.1 (pl 0)
  exact Cells.cons h1.1 h1.2 (Qgv h.2 _)
theorem Qfi {t:TypeId} {cs:List AV} (h:QdM P t=some cs):∃z,(∀w,(zeroValue t).run P w= .ok z w)∧(∀pl,Cells P w G pl cs z.cells.toList)∧z.cells.size=P.cellsOf t:=by
 unfold QdM at h
 split at h
 ·rename_i ds i h1 h2
  split at h
  ·rename_i z hz
   split at h
   ·rename_i hh
    simp only [Option.some.injEq] at h
    subst h
    simp only [Bool.and_eq_true,beq_iff_eq] at hh
    exact ⟨z,fun w=>by simp [zeroValue,typeInfo,h2,hz],Qgv hh.1,by simp [Program.cellsOf,h2,hh.2]⟩
   ·simp at h
  ·simp at h
 ·simp at h
theorem QxN (S:Sim P B W0 d σ a w G) {t:TypeId} (ho:o.op= .alloc t) {k:List W→List Loc→Option β}
  (h:(opM P d ops o).exec call σ acc k=some r):OpDone P B W0 d o σ a w G k r:=by
 unfold opM at h
 rw [ho] at h
 simp only [M.exec] at h
 obtain ⟨cs,hz,h⟩:=Qag h
 obtain ⟨z,hrun,hc,_⟩:=Qfi (w:=w) (G:=G) hz
 split at h
 ·rename_i s hs
  simp only [M.exec] at h
  obtain ⟨hf,h⟩:=Qaf h
  simp only [Bool.and_eq_true,Option.isNone_iff_eq_none,decide_eq_true_eq] at hf
  obtain ⟨S',K⟩:=S.newBox (T:=t) hf.1 hf.2 hc
  refine OpDone.value h (x:= .pointer (some (Qas w.heap.size 0))) (w':=w.alloc (.cells z.cells.toList.toArray t)) ?_ ?_ K
  ·simp [execOp,ho,Instr.alloc,newVar,newRow,hrun]
  ·rw [hs]
   clear h hz hrun
   cases Qyu P t with
   |false=>exact S'
   |true=>
    cases cs with
    |nil=>exact S'
    |cons c tail=>
     cases c with
     |val x=>
      cases x with
      |nilptr=>
       have hbx:box? (QaI σ.mem d s (.val .nilptr::tail)) d s=some (.val .nilptr::tail):=by
        rw [Qa4,if_pos ⟨rfl,rfl,by rw [S.depth];omega,hf.2⟩]
       have M1:=S'.mem.weakCell (d:=d) (s:=s) (o:=0) (v:= .bld t) hbx (by cases tail<;>rfl) rfl (fun u hu=>by
        unfold nthD at hu
        simp only [ARep,CRep] at hu
        subst hu
        simp only [ARep]
        have e1:∃n,QaX (w.alloc (.cells z.cells.toList.toArray t)) w.heap.size=some (t,n):=by
         unfold QaX World.shape?
         rw [heap_alloc_new]
         exact ⟨_,rfl⟩
        exact ⟨d,s,w.heap.size,rfl,by simp [Gh.put],e1, .inl trivial⟩)
       exact ⟨M1,by show (setCell (QaI σ.mem d s (.val .nilptr::tail)) d s 0 (.bld t)).length=_;rw [QdD];exact S'.depth,S'.fr,S'.cfg,S'.marks⟩
      |_=>exact S'
     |_=>exact S'
 ·simp [M.exec] at h
theorem Qrs (w:World) (a:Addr) (u:Value) (b:Nat):QaX (w.setCell a u) b=QaX w b:=by
 unfold QaX World.shape? World.setCell
 simp only [Array.getElem?_modify]
 by_cases e:a.block=b
 ·subst e
  rw [if_pos rfl]
  cases w.heap[a.block]? with
  |none=>rfl
  |some o=>
   cases o with
   |cells c el fz=>simp;split<;>simp
   |_=>simp
 ·rw [if_neg e]
theorem QjO {mem:MemT} (M:Mem P B W0 w G mem) {d' s b:Nat} (hb:G.blk d' s=some b) (o:Nat) (u:Value) (q:Place):Same q w (w.setCell (Qas b o) u) G G:=by
 obtain ⟨cs,vs,T,fz,hbx,R⟩:=M.blk_box hb
 refine ⟨⟨fun _=>Nat.le_refl _,fun b' i hi=> ?_,fun b' e he=>by rw [Qrs];exact he⟩,fun _ _ _ h=>h,fun b' h=>⟨h,rfl, ?_⟩⟩
 ·have:b'≠b:=fun e=>by subst e;rw [R.hw] at hi;omega
  exact cell?_of_heap (Below.heap_setCell w _ _ b' this) i
 ·have:b'≠b:=fun e=>by subst e;rw [R.own] at h;simp at h
  exact Below.heap_setCell w _ _ b' this
theorem Mem.setCell {mem:MemT} (M:Mem P B W0 w G mem) {d' s b o:Nat} {c:List AV} {v:AV} {u:Value} (hb:G.blk d' s=some b) (hc:box? mem d' s=some c) (hr:Qaz c=false) (ho:o<c.length)
  (h1:u.oneCell'=true) (hv:ARep P w G (.cell d' s o) v u):Mem P B W0 (w.setCell (Qas b o) u) G (setCell mem d' s o v):=by
 have N:=QjO M hb o u
 have hsz:(w.setCell (Qas b o) u).heap.size=w.heap.size:=by simp
 obtain ⟨b0,vs,T,fz,R⟩:=M.box d' s c hc
 have hbb:b0=b:=by have:=R.blk.symm.trans hb;simpa using this
 subst hbb
 refine ⟨M.below.setCell R.lo u,by rw [hsz];exact M.base,fun k q hk=>by rw [hsz];exact M.own k q hk,fun k hk=>M.hw k (by rw [hsz] at hk;exact hk),fun d1 s1 h=> ?_,fun d1 s1 c1 h=> ?_,M.inj,M.glob.keep (N .none).keep⟩
 ·rw [Qcy hc hr hv.notRow] at h
  split at h
  ·simp at h
  ·exact M.blk d1 s1 h
 ·rw [Qcy hc hr hv.notRow] at h
  split at h
  ·rename_i e
   obtain ⟨rfl,rfl⟩:=e
   simp only [Option.some.injEq] at h
   subst h
   have hheap:(w.setCell (Qas b0 o) u).heap[b0]?=some (.cells (vs.setIfInBounds o u) T fz):=by
    simp [World.setCell,Array.getElem?_modify,R.cells (Qbw hr)]
   obtain ⟨hlen,hrep⟩:=R.rep.plain hr
   have hr':Qaz (setN c o v)=false:=QfF hr hv.notRow
   refine ⟨b0,_,T,fz,R.blk,R.lo,Qix hheap (Qbw hr'),fun i hi=>R.free i (by simpa using hi),R.hw,R.own,⟨Fits.of hr' (by simpa [QaK] using hlen),fun i hi=> ?_⟩⟩
   rw [Qge hr',QaK] at hi
   rw [Qge hr']
   obtain ⟨z,q1,q2,q3⟩:=hrep i hi
   by_cases e:i=o
   ·subst e
    refine ⟨u, ?_,h1, ?_⟩
    ·have:i<vs.size:=by simp at hlen;omega
     simp [this]
    ·rw [QaL,if_pos ⟨rfl,ho⟩];exact ARep.same (N _) (N _) _ hv
   ·refine ⟨z, ?_,q2, ?_⟩
    ·simp only [Array.toList_setIfInBounds]
     rw [List.getElem?_set_ne (Ne.symm e)];exact q1
    ·rw [QaL,if_neg (fun q=>e q.1)];exact ARep.same (N _) (N _) _ q3
  ·rename_i e
   obtain ⟨b1,vs1,T1,fz1,R1⟩:=M.box d1 s1 c1 h
   have hne:b1≠b0:=fun q=>by subst q;exact e (M.inj _ _ _ _ _ R1.blk R.blk)
   refine ⟨b1,vs1,T1,fz1,R1.blk,R1.lo,by rw [Below.heap_setCell w _ _ b1 hne];exact R1.heap,R1.free,R1.hw,R1.own,⟨R1.rep.len,fun i hi=> ?_⟩⟩
   obtain ⟨z,q1,q2,q3⟩:=R1.rep.rep i hi
   exact ⟨z,q1,q2,ARep.same (N _) (N _) _ q3⟩
theorem Qqa {mem:MemT} (M:Mem P B W0 w G mem) {d' s b o:Nat} {c:List AV} (hb:G.blk d' s=some b) (hc:box? mem d' s=some c) (hr:Qaz c=false) (ho:o<c.length):
  (∃u,w.cell? (Qas b o)=some u)∧w.frozen? (Qas b o)=false:=by
 obtain ⟨b0,vs,T,fz,R⟩:=M.box d' s c hc
 have hbb:b0=b:=by have:=R.blk.symm.trans hb;simpa using this
 subst hbb
 have hlt:o<vs.size:=by have:=(R.rep.plain hr).1;simp at this;omega
 constructor
 ·exact ⟨vs[o],by simp [World.cell?,R.cells (Qbw hr),hlt]⟩
 ·have:=R.free o hlt
  simp only [World.frozen?,R.cells (Qbw hr)]
  simp;omega
theorem Qgo (σ:St):∀(l r:List W),Qau σ (l++r)=Qau (Qau σ l) r
 | [],_=>rfl
 |x::l,r=>by simp only [List.cons_append,Qau];exact Qgo _ l r
theorem Qgs {d' s b off:Nat} (hb:G.blk d' s=some b):∀{us:List Value} {cs:List AV} {i:Nat} {σ:St} {w:World} {c:List AV},Sim P B W0 d σ a w G→box? σ.mem d' s=some c→Qaz c=false→off+i+cs.length≤c.length→
  Cells P w G (fun j=> .cell d' s (off+i+j)) cs us→
  ∃w',(storeCells (Qas b off) us i).run P w= .ok () w'∧Sim P B W0 d (Qau σ (QcA d' s (off+i) cs)) a w' G∧Keeps B d w w' G G
 | [],cs,i,σ,w,c,S,hc,hr,hl,hcs=>by
  have:cs= []:=List.eq_nil_of_length_eq_zero (by have:=hcs.len;simpa using this.symm)
  subst this
  exact ⟨w,rfl,S,Keeps.refl _ _ _ _⟩
 |u::us,cs,i,σ,w,c,S,hc,hr,hl,hcs=>by
  cases cs with
  |nil=>have:=hcs.len;simp at this
  |cons v cs=>
   obtain ⟨u',r',e,h1,h2,h3⟩:=hcs.uncons
   simp only [List.cons.injEq] at e
   obtain ⟨rfl,rfl⟩:=e
   simp only [Nat.add_zero] at h2
   have ho:off+i<c.length:=by simp at hl;omega
   obtain ⟨⟨z,hz⟩,hf⟩:=Qqa S.mem hb hc hr ho
   have N:=QjO S.mem hb (off+i) u
   have M':=S.mem.setCell hb hc hr ho h1 h2
   have S':Sim P B W0 d {σ with mem:=Am.setCell σ.mem d' s (off+i) v} a (w.setCell (Qas b (off+i)) u) G:=
    ⟨M',by rw [QdD];exact S.depth,⟨S.fr.len,fun j=>ARep.same (N _) (N _) _ (S.fr.rep j)⟩,S.cfg,S.marks.of fun k _ hf=>⟨hf,rfl,Below.heap_setCell w _ _ k fun e=>hf.2 d' s (by rw [hb];exact congrArg some e.symm)⟩⟩
   have hc':box? (Am.setCell σ.mem d' s (off+i) v) d' s=some (setN c (off+i) v):=by rw [Qcy hc hr h2.notRow,if_pos ⟨rfl,rfl⟩]
   have h3':Cells P (w.setCell (Qas b (off+i)) u) G (fun j=> .cell d' s (off+(i+1)+j)) cs us:=by
    refine ⟨h3.len,fun j hj=> ?_⟩
    obtain ⟨y,q1,q2,q3⟩:=h3.rep j hj
    refine ⟨y,q1,q2,ARep.same (N _) (N _) _ ?_⟩
    have e:off+(i+1)+j=off+i+(j+1):=by omega
    rw [e];exact q3
   obtain ⟨w',hrun,S2,K2⟩:=Qgs hb S' hc' (QfF hr h2.notRow) (i:=i+1) (by rw [QaK];simp at hl⊢;omega) h3'
   have K1:Keeps B d w (w.setCell (Qas b (off+i)) u) G G:=by
    obtain ⟨b0,vs,T,fz,R⟩:=S.mem.box d' s c hc
    have hbb:b0=b:=by have:=R.blk.symm.trans hb;simpa using this
    exact ⟨(N .none).keep,fun k _ _ _ hk=>(N _).own k hk,fun _ _ _ _ h=>h,(Below.refl B w).setCell (by rw [←hbb];exact R.lo) u,fun _ _=>rfl,
     fun k _ hf=>⟨hf,rfl,Below.heap_setCell w _ _ k fun e=>hf.2 d' s (by rw [hb];exact congrArg some e.symm)⟩,fun _ _=>rfl⟩
   refine ⟨w', ?_, ?_,K1.trans K2⟩
   ·have hst:(store (Qas b (off+i)) u).run P w= .ok () (w.setCell (Qas b (off+i)) u):=by
     rw [run_store P w _ u .plain h1,hz];simp [hf]
    simp only [storeCells,Sem.run_bind,Qbi,hst,Result.andThen_ok]
    exact hrun
   ·simpa [QcA,Qau,W.apply,Nat.add_assoc] using S2
theorem OpDone.skip {k:List W→List Loc→Option β} {ws:List W} {rs:List Loc} {w':World} {G':Gh} (hk:k ws rs=some r) (hd:o.dst=none)
  (hrun:(execOp a.eval o).run P w= .ok .skip w') (S':Sim P B W0 d (Qau σ ws) a w' G') (K:Keeps B d w w' G G'):OpDone P B W0 d o σ a w G k r:=
 ⟨ws,rs,hk,fun ρ ν next Q hn=>⟨fun _ _=>trivial,by rw [Oper.semAt_eq _ _ _ (Qiy (fun _ h=>by cases h) hrun),hrun];exact hn _ _ _ (by rw [hd];exact S') K⟩⟩
theorem Sim.toCell (S:Sim P B W0 d σ a w G) {t d' s off b:Nat} {v:AV} (hv:ARep P w G (.tmp d t) v (a.tmps.getD t undef)) (hb:G.blk d' s=some b) (hown:v.isOwn=true):
  ∃G',Sim P B W0 d {σ with tmps:=setN σ.tmps t v.copy} a w G'∧Keeps B d w w G G'∧ARep P w G' (.cell d' s off) v (a.tmps.getD t undef)∧G'.blk d' s=some b:=by
 have S1:=S.weaken (hv.copy (q:= .tmp d t))
 cases v with
 |lst own n e l=>
  cases own with
  |false=>simp [AV.isOwn] at hown
  |true=>
   have hcopy:=hv.copy (q:= .tmp d t)
   have hv0:=hv
   simp only [ARep] at hv
   rcases hv with hv|⟨g1,b0,bo,cap,g2,g3,g4,g5,g6,g7⟩
   ·exact ⟨G,S1,Keeps.refl _ _ _ _,by simp only [ARep];exact .inl hv,hb⟩
   ·rcases g7 with g7|⟨_,g7⟩
    ·exact ⟨G,S1,Keeps.refl _ _ _ _,by simp only [ARep];exact .inr ⟨g1,b0,bo,cap,g2,g3,g4,g5,g6, .inl g7⟩,hb⟩
    ·have ho:=g7.1
     have N:=QcM (w:=w) (q:= .cell d' s off) (r:= .none) ho (by simp)
     have F2:Fr P w (G.move b0 (.cell d' s off)) d (setN σ.tmps t (AV.copy (.lst true n e l))) a.tmps:=by
      refine ⟨S1.fr.len,fun j=> ?_⟩
      by_cases hj:j=t
      ·subst hj
       simp only [QaL]
       by_cases hlt:j<σ.tmps.length
       ·rw [if_pos (by simp [hlt])]
        simp only [AV.copy,ARep] at hcopy⊢
        exact hcopy
       ·rw [if_neg (by simp [hlt])]
        have hany:nthD AV.any σ.tmps j= .any:=by rw [Qar,List.getElem?_eq_none (by omega)];rfl
        rw [hany];simp [ARep]
      ·exact ARep.same (QcM ho (by simp [hj])) N _ (S1.fr.rep j)
     refine ⟨G.move b0 (.cell d' s off),⟨S1.mem.move ho (by simp) (by simp),S.depth,F2,S.cfg,S.marks.of (QkF ho)⟩,Keeps.move ho (fun d'' i hd e=>by simp at e;omega), ?_,hb⟩
     simp only [ARep]
     refine .inr ⟨g1,b0,bo,cap,g2,g3,g4,g5, ?_, .inr ⟨trivial, ?_⟩⟩
     ·exact CRepLL.keep (Keep.refl _ _) l (by rw [QcJ g4];exact g5) g6
     ·obtain ⟨q1,q2,q3,q4,cur,q5,q6⟩:=g7
      exact ⟨by simp [Gh.move],q2,q3,q4,cur,q5,q6⟩
 |_=>simp [AV.isOwn] at hown
theorem Qor:∀(zs:List (Nat×TypeId)) (cs:List AV),(setZ zs cs).length=cs.length
 | [],_=>rfl
 |(i,e)::r,cs=>by unfold setZ;rw [Qor r,QaK]
theorem Cells.zeros {pl:Nat→Place} {us:List Value}:∀(zs:List (Nat×TypeId)) {cs:List AV},Cells P w G pl cs us→(∀z∈zs,∃e,nthD .any cs z.1= .val (.list true [])∨nthD .any cs z.1= .lst true true e [])→Cells P w G pl (setZ zs cs) us
 | [],_,h,_=>h
 |(i,e)::r,cs,h,hz=>by
  unfold setZ
  refine Cells.zeros r ?_ fun z hzr=> ?_
  ·refine ⟨by rw [QaK];exact h.len,fun j hj=> ?_⟩
   rw [QaK] at hj
   obtain ⟨u,q1,q2,q3⟩:=h.rep j hj
   refine ⟨u,q1,q2, ?_⟩
   rw [QaL]
   split
   ·rename_i e1
    obtain ⟨e2,h1|h1⟩:=hz (i,e) (List.mem_cons_self ..)
    ·rw [e1.1,h1] at q3
     simp only [ARep,CRep] at q3⊢
     rcases q3 with ⟨_,_,q3⟩|⟨q3,_⟩
     ·exact .inl ⟨trivial,trivial,q3⟩
     ·cases q3
    ·rw [e1.1,h1] at q3
     simp only [ARep] at q3⊢
     rcases q3 with ⟨_,_,q3⟩|⟨q3,_⟩
     ·exact .inl ⟨trivial,trivial,q3⟩
     ·cases q3
   ·exact q3
  ·rw [QaL]
   split
   ·exact ⟨e, .inr rfl⟩
   ·exact hz z (List.mem_cons_of_mem _ hzr)
theorem Qsb {v:AV} (h:QpE v=true):v= .val (.list true []):=by
 unfold QpE at h
 split at h
 ·rfl
 ·cases h
theorem Qg3 (e:TypeId) (l:List (List CV)):xp [.row e l]=l.flatten.map .val:=rfl
theorem Qf3 (cs:List CV) (n:Nat):Qaz (cs.map AV.val++List.replicate n .any)=false:=by
 cases cs with
 |nil=>cases n with
  |zero=>rfl
  |succ n=>cases n<;>rfl
 |cons c cs=>
  cases h:(cs.map AV.val++List.replicate n .any) with
  |nil=>simp only [List.map_cons,List.cons_append,h];rfl
  |cons x r=>simp only [List.map_cons,List.cons_append,h];rfl
theorem Mem.unroll {mem:MemT} (M:Mem P B W0 w G mem) {d' s:Nat} {e:TypeId} {l:List (List CV)} (h:box? mem d' s=some [.row e l]) (hne:e≠mapE):
  ∃n b vs T fz,Mem P B W0 w G (QaI mem d' s (l.flatten.map .val++List.replicate n .any))∧G.blk d' s=some b∧w.heap[b]?=some (.cells vs T fz)∧vs.size=l.flatten.length+n∧∀v∈vs.toList,v.oneCell'=true:=by
 obtain ⟨b,vs,T,fz,R⟩:=M.box d' s _ h
 obtain ⟨h1,_,h3⟩:=R.rep.len.2 e l rfl hne
 rw [show vs.toList.length=vs.size from Array.length_toList] at h1
 have hin:=Qis h
 have Qg3:xp [AV.row e l]=l.flatten.map .val:=rfl
 generalize hfl:l.flatten=fl at*
 have hnr:=Qf3 fl (vs.size-fl.length)
 refine ⟨vs.size-fl.length,b,vs,T,fz,⟨M.below,M.base,M.own,M.hw,fun d1 s1 hb=> ?_,fun d1 s1 cs hb=> ?_,M.inj,M.glob⟩,R.blk,R.cells (QeB hne),by omega,h3⟩
 ·rw [Qa4] at hb
  split at hb
  ·cases hb
  ·exact M.blk d1 s1 hb
 ·rw [Qa4] at hb
  split at hb
  ·rename_i q
   simp only [Option.some.injEq] at hb
   subst hb
   obtain ⟨rfl,rfl,_,_⟩:=q
   refine ⟨b,vs,T,fz,R.blk,R.lo,Qix (R.cells (QeB hne)) (Qbw hnr),R.free,R.hw,R.own,⟨Fits.of hnr (by simp;omega),fun i hi=> ?_⟩⟩
   rw [Qge hnr] at hi⊢
   simp only [List.length_append,List.length_map,List.length_replicate] at hi
   by_cases hlt:i<fl.length
   ·obtain ⟨u,q1,q2,q3⟩:=R.rep.rep i (by rw [Qg3];simpa using hlt)
    refine ⟨u,q1,q2, ?_⟩
    rw [Qg3] at q3
    rw [Qar,List.getElem?_append_left (by simpa using hlt),←Qar]
    exact q3
   ·have hv:i<vs.toList.length:=by rw [Array.length_toList];omega
    refine ⟨vs.toList[i],List.getElem?_eq_getElem hv,h3 _ (List.getElem_mem hv), ?_⟩
    rw [Qar,List.getElem?_append_right (by simp;omega),List.getElem?_replicate]
    split<;>simp [ARep]
  ·exact M.box d1 s1 cs hb
theorem Mem.roll {mem:MemT} (M:Mem P B W0 w G mem) {d' s b:Nat} {e:TypeId} {l:List (List CV)} {n:Nat} {vs:Array Value} {T:TypeId} {fz:Nat×Nat} (h:box? mem d' s=some (l.flatten.map .val++List.replicate n .any))
  (hb:G.blk d' s=some b) (hh:w.heap[b]?=some (.cells vs T fz)) (hsz:vs.size=l.flatten.length+n) (hes:∀c∈l,c.length=P.cellsOf e) (hne:e≠mapE):Mem P B W0 w G (QaI mem d' s [.row e l]):=by
 obtain ⟨b',vs',T',fz',R⟩:=M.box d' s _ h
 have:b'=b:=by have:=R.blk.symm.trans hb;simpa using this
 subst this
 have:vs'=vs∧T'=T∧fz'=fz:=by have:=(R.cells (Qbw (Qf3 l.flatten n))).symm.trans hh;simp at this;exact this
 obtain ⟨rfl,rfl,rfl⟩:=this
 have hnr:=Qf3 l.flatten n
 obtain ⟨h1,h2⟩:=R.rep.plain hnr
 have Qg3:xp [AV.row e l]=l.flatten.map .val:=rfl
 generalize hfl:l.flatten=fl at*
 refine ⟨M.below,M.base,M.own,M.hw,fun d1 s1 hb=> ?_,fun d1 s1 cs hb=> ?_,M.inj,M.glob⟩
 ·rw [Qa4] at hb
  split at hb
  ·cases hb
  ·exact M.blk d1 s1 hb
 ·rw [Qa4] at hb
  split at hb
  ·rename_i q
   simp only [Option.some.injEq] at hb
   subst hb
   obtain ⟨rfl,rfl,_,_⟩:=q
   refine ⟨b',vs',T',fz',R.blk,R.lo,Qix hh (QeB hne),R.free,R.hw,R.own,⟨Fits.row (by rw [show vs'.toList.length=vs'.size from Array.length_toList];rw [hfl];omega) hes (fun v hv=> ?_),fun i hi=> ?_⟩⟩
   ·obtain ⟨i,hi,rfl⟩:=List.getElem_of_mem hv
    rw [Array.length_toList] at hi
    obtain ⟨u,q1,q2,_⟩:=h2 i (by simp;omega)
    rw [List.getElem?_eq_getElem (by rw [Array.length_toList];exact hi)] at q1
    cases q1
    exact q2
   ·rw [Qg3] at hi⊢
    rw [List.length_map] at hi
    obtain ⟨u,q1,q2,q3⟩:=h2 i (by simp;omega)
    refine ⟨u,q1,q2, ?_⟩
    rw [Qar,List.getElem?_append_left (by simpa using hi),←Qar] at q3
    exact q3
  ·exact M.box d1 s1 cs hb
theorem QiK:∀(vs:List CV) (cs:List CV) (off:Nat),(QbI cs off vs).length=cs.length
 | [],_,_=>rfl
 |v::vs,cs,off=>by simp only [QbI];rw [QiK vs,QaK]
theorem Qlq {α:Type}:∀(l:List α) (i:Nat) (x:α),i<l.length→setN l i x=l.take i++x::l.drop (i+1)
 | [],i,x,h=>by simp at h
 |y::l,0,x,_=>by simp [setN]
 |y::l,i+1,x,h=>by simp [setN,Qlq l i x (by simpa using h)]
theorem Qse:∀(vs:List CV) (cs:List CV) (off:Nat),off+vs.length≤cs.length→QbI cs off vs=cs.take off++vs++cs.drop (off+vs.length)
 | [],cs,off,h=>by simp [QbI]
 |v::vs,cs,off,h=>by
  simp only [List.length_cons] at h
  simp only [QbI]
  rw [Qse vs _ _ (by rw [QaK];omega),Qlq cs off v (by omega)]
  have e1:(cs.take off++v::cs.drop (off+1)).take (off+1)=cs.take off++ [v]:=by
   rw [List.take_append,List.take_of_length_le (by simp;omega)]
   have:off+1-(List.take off cs).length=1:=by simp;omega
   rw [this];simp
  have e2:(cs.take off++v::cs.drop (off+1)).drop (off+1+vs.length)=cs.drop (off+(vs.length+1)):=by
   rw [List.drop_append,List.drop_eq_nil_of_le (by simp;omega)]
   have:off+1+vs.length-(List.take off cs).length=vs.length+1:=by simp;omega
   rw [this]
   simp
   congr 1
   omega
  rw [e1,e2]
  simp
theorem Mem.congr {mem mem':MemT} (M:Mem P B W0 w G mem) (h:∀d s,box? mem' d s=box? mem d s):Mem P B W0 w G mem':=
 ⟨M.below,M.base,M.own,M.hw,fun d s hb=>M.blk d s (by rw [←h];exact hb),fun d s cs hb=>M.box d s cs (by rw [←h];exact hb),M.inj,M.glob⟩
theorem Qnq {d' s:Nat}:∀(vs:List AV) (off:Nat) (σ:St) (c:List AV),box? σ.mem d' s=some c→Qaz c=false→(∀v∈vs,Qaz [v]=false)→
  (Qau σ (QcA d' s off vs)).tmps=σ.tmps∧(Qau σ (QcA d' s off vs)).K=σ.K∧(Qau σ (QcA d' s off vs)).mem.length=σ.mem.length∧
   ∀d1 s1,box? (Qau σ (QcA d' s off vs)).mem d1 s1=if d1=d'∧s1=s then some (QcI c off vs) else box? σ.mem d1 s1
 | [],off,σ,c,h,_,_=>by
  refine ⟨rfl,rfl,rfl,fun d1 s1=> ?_⟩
  split
  ·rename_i q;rw [q.1,q.2];exact h
  ·rfl
 |v::vs,off,σ,c,h,hr,hvs=>by
  have hv:=hvs v (by simp)
  have h1:box? (Am.setCell σ.mem d' s off v) d' s=some (setN c off v):=by rw [Qcy h hr hv,if_pos ⟨rfl,rfl⟩]
  obtain ⟨q1,q2,q3,q4⟩:=Qnq vs (off+1) {σ with mem:=Am.setCell σ.mem d' s off v} _ h1 (QfF hr hv) fun x hx=>hvs x (by simp [hx])
  simp only [QcA,Qau,W.apply,QcI]
  refine ⟨q1,q2,q3.trans QdD,fun d1 s1=> ?_⟩
  rw [q4]
  split
  ·rfl
  ·rename_i q
   show box? (Am.setCell σ.mem d' s off v) d1 s1=_
   rw [Qcy h hr hv,if_neg q]
theorem Qr2 (v:CV) (n:Nat):∀(c:List CV) (off:Nat),off<c.length→setN (c.map AV.val++List.replicate n .any) off (.val v)=(setN c off v).map .val++List.replicate n .any
 | [],off,h=>by simp at h
 |x::c,0,_=>by simp [setN]
 |x::c,off+1,h=>by simp only [List.map_cons,List.cons_append,setN];rw [Qr2 v n c off (by simpa using h)]
theorem Qm8 (n:Nat):∀(vs c:List CV) (off:Nat),off+vs.length≤c.length→QcI (c.map AV.val++List.replicate n .any) off (vs.map .val)=(QbI c off vs).map .val++List.replicate n .any
 | [],c,off,_=>rfl
 |v::vs,c,off,h=>by
  simp only [List.length_cons] at h
  simp only [List.map_cons,QcI,QbI]
  rw [Qr2 v n c off (by omega),Qm8 n vs _ _ (by rw [QaK];omega)]
theorem Qt0 (v:CV) (n:Nat):∀(c:List CV),setN (c.map AV.val++List.replicate (n+1) .any) c.length (.val v)=(c++ [v]).map .val++List.replicate n .any
 | []=>by simp [setN,List.replicate_succ]
 |x::c=>by simp only [List.map_cons,List.cons_append,List.length_cons,setN];rw [Qt0 v n c]
theorem QoC:∀(vs c:List CV) (n:Nat),vs.length≤n→QcI (c.map AV.val++List.replicate n .any) c.length (vs.map .val)=(c++vs).map .val++List.replicate (n-vs.length) .any
 | [],c,n,_=>by simp [QcI]
 |v::vs,c,n,h=>by
  simp only [List.length_cons] at h
  obtain ⟨m,rfl⟩:∃m,n=m+1:=⟨n-1,by omega⟩
  simp only [List.map_cons,QcI]
  rw [Qt0 v m c]
  have:=QoC vs (c++ [v]) m (by omega)
  simp only [List.length_append,List.length_cons,List.length_nil,Nat.zero_add] at this
  rw [this]
  simp
theorem Sim.storeRow (S:Sim P B W0 d σ a w G) {d' s b q:Nat} {e:TypeId} {l l':List (List CV)} {cs:List CV} {us:List Value} (hb:G.blk d' s=some b) (hbx:box? σ.mem d' s=some [.row e l])
  (hov:∀n T,QaX w b=some (T,l.flatten.length+n)→q+cs.length≤l.flatten.length+n∧∃n',l'.flatten.length+n'=l.flatten.length+n∧QcI (l.flatten.map .val++List.replicate n .any) q (cs.map .val)=l'.flatten.map .val++List.replicate n' .any)
  (hes:∀c∈l',c.length=P.cellsOf e) (hcs:CRepV w G.hw cs us) (hme:e≠mapE):
  ∃w',(storeCells (Qas b q) us).run P w= .ok () w'∧Sim P B W0 d {σ with mem:=QaI σ.mem d' s [.row e l']} a w' G∧Keeps B d w w' G G:=by
 obtain ⟨n,b0,vs,T,fz,M1,hb0,hh,hsz,_⟩:=S.mem.unroll hbx hme
 have hbb:b0=b:=by rw [hb] at hb0;exact (Option.some.inj hb0).symm
 subst hbb
 have hel:QaX w b0=some (T,l.flatten.length+n):=by unfold QaX World.shape?;rw [hh];simp [hsz]
 obtain ⟨hq,n',hn',hovl⟩:=hov n T hel
 have hin:=Qis hbx
 have S1:Sim P B W0 d {σ with mem:=QaI σ.mem d' s (l.flatten.map .val++List.replicate n .any)} a w G:=⟨M1,by rw [Qcf];exact S.depth,S.fr,S.cfg,S.marks⟩
 have hc1:box? (QaI σ.mem d' s (l.flatten.map AV.val++List.replicate n .any)) d' s=some (l.flatten.map .val++List.replicate n .any):=by rw [Qa4,if_pos ⟨rfl,rfl,hin.1,hin.2⟩]
 obtain ⟨w',hrun,S2,K2⟩:=Qgs (off:=q) (i:=0) (cs:=cs.map .val) (us:=us) hb0 S1 hc1 (Qf3 _ _) (by rw [List.length_append,List.length_map,List.length_map,List.length_replicate];omega) (hcs.cells (pl:=fun j=> .cell d' s (q+0+j)))
 obtain ⟨t1,t2,t3,t4⟩:=Qnq (cs.map .val) (q+0) {σ with mem:=QaI σ.mem d' s (l.flatten.map .val++List.replicate n .any)} _ hc1 (Qf3 _ _) (fun v hv=>by obtain ⟨x,_,rfl⟩:=List.mem_map.1 hv;rfl)
 have hbox2:=t4 d' s
 rw [if_pos ⟨rfl,rfl⟩,Nat.add_zero,hovl] at hbox2
 have hel2:=K2.keep.elem b0 _ hel
 obtain ⟨vs',fz',hh',hsz'⟩:∃vs' fz',w'.heap[b0]?=some (.cells vs' T fz')∧vs'.size=l.flatten.length+n:=by
  unfold QaX World.shape? at hel2
  split at hel2
  ·rename_i c el fz' hc
   simp only [Option.some.injEq,Prod.mk.injEq] at hel2
   exact ⟨c,fz',by rw [hc,hel2.1],hel2.2⟩
  ·cases hel2
 have M3:=S2.mem.roll (e:=e) (by simpa using hbox2) hb0 hh' (by rw [hsz',hn']) hes hme
 refine ⟨w',by simpa using hrun,⟨M3.congr fun d1 s1=> ?_,by rw [Qcf];exact S.depth,⟨S.fr.len,fun i=> ?_⟩,S.cfg,S2.marks⟩,K2⟩
 ·rw [Qa4,Qa4]
  have l1:d'<(Qau {σ with mem:=QaI σ.mem d' s (l.flatten.map AV.val++List.replicate n .any)} (QcA d' s (q+0) (cs.map .val))).mem.length:=(Qis hbox2).1
  have l2:=(Qis hbox2).2
  by_cases hds:d1=d'∧s1=s
  ·rw [if_pos ⟨hds.1,hds.2,hin.1,hin.2⟩,if_pos ⟨hds.1,hds.2,by simpa using l1,by simpa using l2⟩]
  ·rw [if_neg (fun z=>hds ⟨z.1,z.2.1⟩),if_neg (fun z=>hds ⟨z.1,z.2.1⟩)]
   have:=t4 d1 s1
   rw [if_neg hds] at this
   simp only [Nat.add_zero] at this⊢
   rw [this,Qa4,if_neg (fun z=>hds ⟨z.1,z.2.1⟩)]
 ·have:=S2.fr.rep i
  rw [t1] at this
  exact this
theorem Qvg {l l':List (List CV)} {q:Nat} {cs:List CV} (h:l'.flatten=QbI l.flatten q cs) (hq:q+cs.length≤l.flatten.length) {w:World} {b:Nat}:
  ∀n T,QaX w b=some (T,l.flatten.length+n)→q+cs.length≤l.flatten.length+n∧∃n',l'.flatten.length+n'=l.flatten.length+n∧QcI (l.flatten.map .val++List.replicate n .any) q (cs.map .val)=l'.flatten.map .val++List.replicate n' .any:=by
 intro n T _
 refine ⟨by omega,n,by rw [h,QiK], ?_⟩
 rw [Qm8 n cs _ _ hq,h]
theorem Qc0 {es:Nat} {l:List (List CV)} (h:∀c∈l,c.length=es):l.flatten.length=l.length*es:=by
 rw [List.length_flatten,QcJ h]
theorem Qt9 {α:Type}:∀{l:List α} {i:Nat} {x y:α},y∈setN l i x→y=x∨y∈l
 | [],_,_,_,h=>by simp [setN] at h
 |z::l,0,x,y,h=>by simp [setN] at h;rcases h with h|h<;>simp [h]
 |z::l,i+1,x,y,h=>by
  simp only [setN,List.mem_cons] at h
  rcases h with h|h
  ·simp [h]
  ·rcases Qt9 h with h|h<;>simp [h]
theorem Qmg {α:Type} (x:α) (r:List α):∀(l:List α) (i:Nat),i<l.length→setN (l++r) i x=setN l i x++r
 | [],i,h=>by simp at h
 |y::l,0,_=>rfl
 |y::l,i+1,h=>by simp only [List.cons_append,setN];rw [Qmg x r l i (by simpa using h)]
theorem Qk8 {α:Type} (x:α) (r:List α):∀(l:List α) (i:Nat),setN (l++r) (l.length+i) x=l++setN r i x
 | [],i=>by simp
 |y::l,i=>by
  simp only [List.cons_append,List.length_cons]
  rw [show l.length+1+i=(l.length+i)+1 by omega]
  simp only [setN]
  rw [Qk8 x r l i]
theorem QoK (r:List CV):∀(vs l:List CV) (i:Nat),i+vs.length≤l.length→QbI (l++r) i vs=QbI l i vs++r
 | [],_,_,_=>rfl
 |v::vs,l,i,h=>by
  simp only [List.length_cons] at h
  simp only [QbI]
  rw [Qmg v r l i (by omega),QoK r vs _ _ (by rw [QaK];omega)]
theorem Qm6 (l:List CV):∀(vs r:List CV) (i:Nat),QbI (l++r) (l.length+i) vs=l++QbI r i vs
 | [],_,_=>rfl
 |v::vs,r,i=>by
  simp only [QbI]
  rw [Qk8 v r l i,show l.length+i+1=l.length+(i+1) by omega,Qm6 l vs]
theorem QmR {es:Nat} {cs:List CV}:∀{l:List (List CV)},(∀c∈l,c.length=es)→∀{i off:Nat} {c:List CV},l[i]?=some c→off+cs.length≤c.length→(setN l i (QbI c off cs)).flatten=QbI l.flatten (i*es+off) cs
 | [],_,i,off,c,h,_=>by simp at h
 |x::l,he,i,off,c,h,hle=>by
  have hx:=he x (by simp)
  cases i with
  |zero=>
   simp only [List.getElem?_cons_zero,Option.some.injEq] at h
   subst h
   simp only [setN,List.flatten_cons,Nat.zero_mul,Nat.zero_add]
   rw [QoK _ _ _ _ hle]
  |succ i=>
   have ih:=QmR (l:=l) (fun c hc=>he c (by simp [hc])) (i:=i) (by simpa using h) hle
   simp only [setN,List.flatten_cons]
   rw [ih,←Qm6,hx]
   congr 1
   rw [Nat.add_mul];omega
theorem Qsm {es:Nat} {l new:List (List CV)} {i:Nat} (he:∀c∈l,c.length=es) (hn:∀c∈new,c.length=es) (hle:i+new.length≤l.length):
  (Qh5 l i new).flatten=QbI l.flatten (i*es) new.flatten∧i*es+new.flatten.length≤l.flatten.length∧∀c∈Qh5 l i new,c.length=es:=by
 have f1:=Qc0 he
 have f2:=Qc0 hn
 have hmul:i*es+new.length*es≤l.length*es:=by rw [←Nat.add_mul];exact Nat.mul_le_mul_right _ hle
 have hbound:i*es+new.flatten.length≤l.flatten.length:=by omega
 refine ⟨?_,hbound,fun c hc=> ?_⟩
 ·rw [Qse _ _ _ hbound]
  unfold Qh5
  simp only [List.flatten_append]
  have e1:l.flatten=(l.take i).flatten++(l.drop i).flatten:=by rw [←List.flatten_append,List.take_append_drop]
  have e2:l.flatten=(l.take (i+new.length)).flatten++(l.drop (i+new.length)).flatten:=by rw [←List.flatten_append,List.take_append_drop]
  have l1:(l.take i).flatten.length=i*es:=by rw [Qc0 fun c hc=>he c (List.mem_of_mem_take hc)];congr 1;simp;omega
  have l2:(l.take (i+new.length)).flatten.length=i*es+new.flatten.length:=by
   rw [Qc0 fun c hc=>he c (List.mem_of_mem_take hc),f2,←Nat.add_mul];congr 1;simp;omega
  congr 1
  ·congr 1
   rw [e1,List.take_left' l1]
  ·rw [e2,List.drop_left' l2]
 ·unfold Qh5 at hc
  simp only [List.mem_append] at hc
  rcases hc with (hc|hc)|hc
  ·exact he c (List.mem_of_mem_take hc)
  ·exact hn c hc
  ·exact he c (List.mem_of_mem_drop hc)
theorem Qwd {t:TypeId} {x:Operand} {f:List (Nat×TypeId)→List Loc→Option β} {acc:List Loc} (h:(Qv8 P ops o t x).exec call σ acc f=some r):∃zs acc',f zs acc'=some r:=by
 simp only [Qv8,M.exec] at h
 obtain ⟨_,h⟩:=Qaf h
 split at h
 ·exact ⟨_,_,h⟩
 ·exact ⟨_,_,h⟩
theorem Qzw (S:Sim P B W0 d σ a w G) {t:TypeId} {x:Operand} (ho:o.op= .box t x) {k:List W→List Loc→Option β}
  (h:(opM P d ops o).exec call σ acc k=some r):OpDone P B W0 d o σ a w G k r:=by
 unfold opM at h
 rw [ho] at h
 simp only [M.exec_bind'] at h
 obtain ⟨v,acc',h,hv⟩:=QfN S _ _ h
 obtain ⟨cs,h,hl,hc,_,_⟩:=Qeh hv h
 obtain ⟨zs,acc2,h⟩:=Qwd h
 simp only [M.exec] at h
 obtain ⟨hzs,h⟩:=Qaf h
 split at h
 ·rename_i s hs
  simp only [M.exec] at h
  obtain ⟨hf,h⟩:=Qaf h
  simp only [Bool.and_eq_true,Option.isNone_iff_eq_none,decide_eq_true_eq] at hf
  obtain ⟨S',K⟩:=S.newBox (T:=t) hf.1 hf.2 (fun pl=>(hc.copy (pl':=pl)).zeros zs fun z hz=>⟨0, .inl (Qsb (List.all_eq_true.1 hzs z hz))⟩)
  refine OpDone.value h (x:= .pointer (some (Qas w.heap.size 0))) ?_ (by rw [hs];exact S') K
  simp [execOp,ho,Instr.box,newVar,newRow]
 ·simp [M.exec] at h
theorem QxV (S:Sim P B W0 d σ a w G) {t:TypeId} {x y:Operand} (ho:o.op= .store t x y) {k:List W→List Loc→Option β}
  (h:(opM P d ops o).exec call σ acc k=some r):OpDone P B W0 d o σ a w G k r:=by
 unfold opM at h
 rw [ho] at h
 simp only at h
 rw [M.exec] at h
 obtain ⟨hd,h⟩:=Qaf h
 have hd:o.dst=none:=by simpa using hd
 simp only [M.exec_bind'] at h
 obtain ⟨av,acc',h,hav⟩:=QaC S _ h
 obtain ⟨v,acc',h,hv⟩:=QfN S _ _ h
 unfold Qxc at h
 simp only [M.exec] at h
 obtain ⟨hu,h⟩:=Qaf h
 split at h
 ·rename_i d' s off _ _
  simp only [ARep] at hav
  obtain ⟨b,hb,hx⟩:=hav
  rw [M.exec_bind] at h
  have hc0:=h
  obtain ⟨cs,h,hl,hc,hagg0,hagg1⟩:=Qeh hv h
  rw [M.exec_bind] at h
  obtain ⟨old,acc2,h,hl2,hhas⟩:=Qh0 h
  obtain ⟨c,vs0,T0,fz0,hbx,R⟩:=S.mem.blk_box hb
  have hroom:off+0+cs.length≤max c.length off:=by
   cases hn:P.cellsOf t with
   |zero=>rw [hl,hn];omega
   |succ n=>
    have:=(hhas n (by omega)).1
    simp only [St.has,hbx,decide_eq_true_eq] at this
    have:=(QkH this).2
    rw [hl,hn];omega
  simp only [M.exec] at h
  obtain ⟨hzs,h⟩:=Qaf h
  generalize Qg9 P ops y=zs at hzs h
  have norm:∀{G1:Gh} {pl:Nat→Place} {us:List Value},Cells P w G1 pl cs us→Cells P w G1 pl (setZ zs cs) us:=fun hc1=>hc1.zeros zs fun z hz=>⟨0, .inl (Qsb (List.all_eq_true.1 hzs z hz))⟩
  have hl1:(setZ zs cs).length=cs.length:=Qor zs cs
  have run:∀{G1:Gh} {σ1:St},Sim P B W0 d σ1 a w G1→G1.blk d' s=some b→σ1.mem=σ.mem→Keeps B d w w G G1→Cells P w G1 (fun j=> .cell d' s (off+0+j)) (setZ zs cs) (a.eval y).cells.toList→
    ∃w',(execOp a.eval o).run P w= .ok .skip w'∧Sim P B W0 d (Qau σ1 (QcA d' s off (setZ zs cs))) a w' G1∧Keeps B d w w' G G1:=by
   generalize setZ zs cs=cs1 at hl1
   intro G1 σ1 S1 hb1 hm K1 hc1
   have hsz:(a.eval y).cells.size=P.cellsOf t:=by have:=hc1.len;simpa [hl1,hl] using this
   have hex:∀w',(storeCells (Qas b off) (a.eval y).cells.toList).run P w= .ok () w'→(execOp a.eval o).run P w= .ok .skip w':=by
    intro w' hr
    simp only [execOp,ho,hx,Instr.storeAt,Instr.sureAddr,storeVar,Sem.run_bind,Sem.run_pure,Result.andThen_ok,Qbz hu,hsz]
    simp [hr]
   by_cases hz:cs1= []
   ·subst hz
    have hn:(a.eval y).cells.toList= []:=List.eq_nil_of_length_eq_zero (by have:=hc1.len;simpa using this)
    exact ⟨w,hex w (by rw [hn];rfl),S1,K1⟩
   ·have hpos:0<cs1.length:=List.length_pos_iff.2 hz
    have h0:0<P.cellsOf t:=by omega
    have h0':=(hhas 0 h0).1
    simp only [St.has,hbx,decide_eq_true_eq] at h0'
    have h0':=QkH h0'
    have hle:off+0+cs1.length≤c.length:=by
     rcases Nat.le_total c.length off with q|q
     ·
      omega
     ·omega
    obtain ⟨w',hr,S2,K2⟩:=Qgs (off:=off) (i:=0) hb1 S1 (by rw [hm];exact hbx) h0'.1 hle hc1
    exact ⟨w',hex w' hr,by simpa using S2,K1.trans K2⟩
  have howns:v.owns=v.isOwn:=by
   cases v with
   |bld T=>exact absurd hc0 (by cases Qa0 P t<;>simp [Qgb,M.exec,AV.isCell,chkO])
   |siter s pos=>exact absurd hc0 (by cases Qa0 P t<;>simp [Qgb,M.exec,AV.isCell,chkO])
   |lst own n e l=>cases own<;>rfl
   |_=>rfl
  have plain:v.isOwn=false→Cells P w G (fun j=> .cell d' s (off+0+j)) cs (a.eval y).cells.toList:=by
   intro hno
   refine hc.weaken fun i u hi hr=> ?_
   cases hA:Qa0 P t with
   |true=>simp only [hA,if_true] at hr;exact ARep.ofNone S.mem.noNone hr
   |false=>
    simp only [hA,Bool.false_eq_true,if_false] at hr
    have hcs:=hagg0 hA
    subst hcs
    have:i=0:=by simp at hi;omega
    subst this
    simp only [nthD] at hr⊢
    exact ARep.place (howns.trans hno) hr
  by_cases hy:∃s',y= .tmp s'
  ·obtain ⟨s',rfl⟩:=hy
   simp only at h
   split at h
   ·rename_i hown
    simp only [M.exec] at h
    have hA:Qa0 P t=false:=by
     cases hA:Qa0 P t with
     |false=>rfl
     |true=>
      obtain ⟨us,hus⟩:=hagg1 hA
      cases v with
      |lst own n e l=>
       simp only [ARep] at hv
       rw [hus] at hv
       rcases hv with ⟨_,_,q⟩|⟨_,_,_,_,⟨_,q,_⟩,_⟩<;>simp at q
      |_=>simp [AV.isOwn] at hown
    have hcs:=hagg0 hA
    obtain ⟨G1,S1,K1,hv1,hb1⟩:=S.toCell (off:=off) (by simpa [QcF,Act.eval] using hv) hb hown
    have h1:(a.eval (.tmp s')).oneCell'=true:=by
     subst hcs
     obtain ⟨u,q1,q2,_⟩:=hc.rep 0 (by simp)
     have hone:v.isCell=true:=by cases v<;>simp [AV.isOwn,AV.isCell] at hown⊢
     exact hv.oneCell hone
    have hc1:Cells P w G1 (fun j=> .cell d' s (off+0+j)) cs (a.eval (.tmp s')).cells.toList:=by
     subst hcs
     rw [QmF h1]
     exact Cells.cons h1 (by simpa [Act.eval] using hv1) Cells.nil
    obtain ⟨w',hr,S2,K2⟩:=run S1 hb1 rfl K1 (norm hc1)
    exact OpDone.skip h hd hr (by simpa [Qau,W.apply] using S2) K2
   ·rename_i hown
    simp only [M.exec] at h
    obtain ⟨w',hr,S2,K2⟩:=run S hb rfl (Keeps.refl _ _ _ _) (norm (plain (by simpa using hown)))
    exact OpDone.skip h hd hr S2 K2
  ·have h:k (QcA d' s off (setZ zs cs)) acc2=some r:=by
    cases y with
    |tmp t=>exact absurd ⟨t,rfl⟩ hy
    |_=>exact h
   have hcc:Cells P w G (fun j=> .cell d' s (off+0+j)) cs (a.eval y).cells.toList:=by
    refine hc.weaken fun i u hi hr=> ?_
    have hp:QcF d y= .none:=by
     cases y with
     |tmp t=>exact absurd ⟨t,rfl⟩ hy
     |_=>rfl
    rw [hp] at hr
    simp only [ite_self] at hr
    exact ARep.ofNone S.mem.noNone hr
   obtain ⟨w',hr,S2,K2⟩:=run S hb rfl (Keeps.refl _ _ _ _) (norm hcc)
   exact OpDone.skip h hd hr S2 K2
 ·
  rename_i e d' s i off _ _
  simp only [ARep] at hav
  obtain ⟨b,hb,hx⟩:=hav
  rw [M.exec_bind] at h
  obtain ⟨l,h,hbx,hme⟩:=Qew h
  rw [M.exec_bind] at h
  obtain ⟨cs,h,hl,hc,_,_⟩:=Qeh hv h
  simp only [M.exec] at h
  obtain ⟨cv,hcv,h⟩:=Qag h
  obtain ⟨c,hci,h⟩:=Qag h
  obtain ⟨hle,h⟩:=Qaf h
  have hle:off+cv.length≤c.length:=by simpa using hle
  obtain ⟨q1,_,q3⟩:=Qdy hc hcv
  have RR:=S.mem.row hb hbx hme
  have hcl:=RR.es c (List.mem_of_getElem? hci)
  have hil:=(List.getElem?_eq_some_iff.1 hci).1
  have hfl:=QmR (cs:=cv) RR.es hci hle
  have hbound:i*P.cellsOf e+off+cv.length≤l.flatten.length:=by
   rw [Qc0 RR.es]
   have:(i+1)*P.cellsOf e≤l.length*P.cellsOf e:=Nat.mul_le_mul_right _ hil
   rw [Nat.add_mul,Nat.one_mul] at this
   omega
  obtain ⟨w',hr,S2,K2⟩:=S.storeRow hb hbx (Qvg hfl hbound) (fun z hz=>by
   rcases Qt9 hz with rfl|hz
   ·rw [QiK];exact hcl
   ·exact RR.es z hz) q1 hme
  have hsz:(a.eval y).cells.size=P.cellsOf t:=by have:=hc.len;simpa [hl] using this
  refine OpDone.skip h hd (w':=w') ?_ S2 K2
  simp only [execOp,ho,hx,Instr.storeAt,Instr.sureAddr,storeVar,Sem.run_bind,Sem.run_pure,Result.andThen_ok,Qbz hu,hsz]
  simp [hr]
 ·simp [M.exec] at h
end Go.Am
namespace Go.Am
open Go.RowKit
variable {P:Program} {B:Nat} {W0:Base} {d:Nat} {σ:St} {a:Act} {w:World} {G:Gh} {β:Type} {call:FuncId→List CV→Option CV}
 {acc:List Loc} {r:β} {o:Oper} {ops:List Oper}
structure Src (P:Program) (w:World) (size:Nat) (x:Value) (n:Nat) (news:List Value):Prop where
 len:∀w',(Builtin.lenOf x).run P w'= .ok n w'
 first:∀w',w'.heap=w.heap→(Builtin.firstCells size n x).run P w'= .ok news.toArray w'
 size:news.length=n*size
section
variable {t u ty e:TypeId} {i:TypeInfo} {z:Value} (ht:P.underlying t=some (.slice e)) (hu:P.underlying u=some .string∨∃e',P.underlying u=some (.slice e'))
 (hi:P.info? e=some i) (hz:i.zero=some z)
include ht hu hi
theorem Qhd {x:Value} {base:Option Addr} {sLen sCap:Nat} (hx:Src P w i.size x 0 []) (hle:sLen≤sCap):
  (Builtin.append_ #[t,u] ty #[.slice base sLen sCap,x]).run P w= .ok (.slice base sLen sCap) w:=by
 have h1:=hx.len w
 have h2:=hx.first w rfl
 rcases hu with hud|⟨e',hud⟩<;>cases base<;>simp [Builtin.append_,run_underlying ht,run_underlying hud,sizeOf,typeInfo,hi,h1,h2,hle,storeCells]
include hz
theorem QhT {x:Value} {n:Nat} {news:List Value} {base:Option Addr} {sLen sCap:Nat} {olds:List Value} (hx:Src P w i.size x n news)
  (ho:(Builtin.firstCells i.size sLen (.slice base sLen sCap)).run P w.drew= .ok olds.toArray w.drew)
  (hg:sCap<sLen+n) (h63:((sLen+n:Nat):Int)≤9223372036854775807) (hfit:Builtin.nextslicecap (sLen+n) sCap*i.bytes≤281474976710656):
  (Builtin.append_ #[t,u] ty #[.slice base sLen sCap,x]).run P w=
   .ok (.slice (some ⟨w.heap.size,0,none⟩) (sLen+n) (grownCap w (sLen+n) sCap e))
    (w.drew.alloc (.cells ((olds++news).toArray++Builtin.zeroCells z.cells (grownCap w (sLen+n) sCap e-(sLen+n))) e)):=by
 have hn:¬(sLen+n≤sCap):=by omega
 have h63':¬(9223372036854775807<((sLen:Int)+(n:Int))):=by omega
 have h48':¬(281474976710656<Builtin.nextslicecap (sLen+n) sCap*i.bytes):=by omega
 have h1:=hx.len w
 have h2:=hx.first w.drew rfl
 rcases hu with hud|⟨e',hud⟩<;>simp [Builtin.append_,run_underlying ht,run_underlying hud,sizeOf,typeInfo,zeroValue,hi,hz,h1,hn,h63',h48',Question.forced,h2,ho,newRow,grownCap]
 all_goals
  congr 2
  apply Array.ext'
  simp
end
theorem QsJ {t u ty e:TypeId} {i:TypeInfo} (ht:P.underlying t=some (.slice e)) (hu:P.underlying u=some .string∨∃e',P.underlying u=some (.slice e'))
  (hi:P.info? e=some i) {x:Value} {n:Nat} {news:List Value} (hx:Src P w i.size x n news)
  {g sLen sCap:Nat} {cur:Array Value} (hg:w.heap[g]?=some (.cells cur e (0,0))) (h1:∀v∈news,v.oneCell'=true) (hroom:sLen+n≤sCap) (hfit:sLen*i.size+news.length≤cur.size):
  (Builtin.append_ #[t,u] ty #[.slice (some (Qas g 0)) sLen sCap,x]).run P w=
   .ok (.slice (some (Qas g 0)) (sLen+n) sCap) (w.setRow g (cur.toList.take (sLen*i.size)++news++cur.toList.drop (sLen*i.size+news.length)).toArray):=by
 have e1:=hx.len w
 have e2:=hx.first w rfl
 have hst:=run_storeCells_at P g (sLen*i.size) e news 0 cur w hg (by simpa using hfit) h1
 simp only [Nat.add_zero] at hst
 rcases hu with hud|⟨e',hud⟩<;>simp [Builtin.append_,run_underlying ht,run_underlying hud,sizeOf,typeInfo,hi,e1,hroom,e2,Qbi,hst]
theorem CRepC.cells {w:World} {h:Hw} {b:Nat}:∀{c:List CV} {off:Nat},CRepC w h b off c→∃us:List Value,us.length=c.length∧(∀j u,us[j]?=some u→w.cell? (Qas b (off+j))=some u)∧CRepV w h c us
 | [],off,_=>⟨[],rfl,fun j u hj=>by simp at hj,by simp [CRepV]⟩
 |x::c,off,hc=>by
  simp only [CRepC] at hc
  obtain ⟨⟨v,h1,h2,h3⟩,h4⟩:=hc
  obtain ⟨us,q1,q2,q3⟩:=h4.cells
  refine ⟨v::us,by simp [q1],fun j u hj=> ?_,by simp only [CRepV];exact ⟨_,_,rfl,h2,h3,q3⟩⟩
  cases j with
  |zero=>simp at hj;subst hj;simpa using h1
  |succ j=>
   have:=q2 j u (by simpa using hj)
   rw [Nat.add_assoc,Nat.add_comm 1 j] at this
   exact this
theorem CRepLL.cells {w:World} {h:Hw} {b:Nat}:∀{l:List (List CV)} {off:Nat},CRepLL w h b off l→∃us:List Value,us.length=(l.map List.length).sum∧(∀j u,us[j]?=some u→w.cell? (Qas b (off+j))=some u)∧CRepV w h l.flatten us
 | [],off,_=>⟨[],rfl,fun j u hj=>by simp at hj,by simp [CRepV]⟩
 |c::l,off,hc=>by
  simp only [CRepLL] at hc
  obtain ⟨us,q1,q2,q3⟩:=hc.1.cells
  obtain ⟨vs,r1,r2,r3⟩:=hc.2.cells
  refine ⟨us++vs,by simp [q1,r1],fun j u hj=> ?_,by simp only [List.flatten_cons];exact q3.append r3⟩
  rw [List.getElem?_append] at hj
  split at hj
  ·exact q2 j u hj
  ·rename_i hlt
   have:=r2 _ u hj
   rw [←this]
   congr 2
   omega
theorem CRepV.one {w:World} {h:Hw}:∀{c:List CV} {us:List Value},CRepV w h c us→∀v∈us,v.oneCell'=true
 | [],us,hr,v,hv=>by simp only [CRepV] at hr;subst hr;simp at hv
 |x::c,us,hr,v,hv=>by
  simp only [CRepV] at hr
  obtain ⟨u,s,rfl,h2,_,h4⟩:=hr
  simp only [List.mem_cons] at hv
  rcases hv with rfl|hv
  ·exact h2
  ·exact h4.one v hv
theorem Qv3 {u:TypeId} {size:Nat} {p:Place} {x:AV} {vx:Value} (hx:ARep P w G p x vx) {f:List (List CV)→List Loc→Option β} (h:(srcM P u x).exec call σ acc f=some r):
  ∃new,f new acc=some r∧(P.underlying u=some .string∨∃e',P.underlying u=some (.slice e'))∧
   ((∀c∈new,c.length=size)→∃news,Src P w size vx new.length news∧CRepV w G.hw new.flatten news):=by
 unfold srcM at h
 split at h
 ·rename_i hu
  rw [M.exec_bind] at h
  obtain ⟨c,h,hc⟩:=QaH hx h
  simp only [M.exec] at h
  obtain ⟨b,hb,h⟩:=Qag h
  rw [QcU hb] at hc
  simp only [CRep] at hc
  refine ⟨_,h,Or.inl hu,fun hs=> ?_⟩
  have hz:(⟨b.toArray⟩:ByteArray).size=b.length:=by simp [ByteArray.size]
  refine ⟨b.map fun x=>Value.int .u8 x.toNat,⟨fun w'=>by simp [hc,Builtin.lenOf,hz],fun w' _=> ?_, ?_⟩, ?_⟩
  ·rw [hc]
   have:(⟨b.toArray⟩:ByteArray).extract 0 b.length=⟨b.toArray⟩:=by rw [QqO];simp
   simp [Builtin.firstCells,this]
  ·cases b with
   |nil=>simp
   |cons y ys=>
    have:=hs [CV.int .u8 (y.toNat:Int)] (by simp)
    simp only [List.length_cons,List.length_nil] at this
    subst this
    simp
  ·have:∀(l:List UInt8) {w':World} {hh:Hw},CRepV w' hh (l.map fun c=> [CV.int .u8 (c.toNat:Int)]).flatten (l.map fun x=>Value.int .u8 x.toNat):=by
    intro l
    induction l with
    |nil=>intro w' hh;simp [CRepV]
    |cons x l ih=>
     intro w' hh
     simp only [List.map_cons,List.flatten_cons,List.cons_append,List.nil_append,CRepV]
     exact ⟨_,_,rfl,rfl,by simp only [CRep],ih⟩
   exact this b
 ·rename_i e' hu
  rw [M.exec_bind] at h
  obtain ⟨c,h,hc⟩:=QaH hx h
  simp only [M.exec] at h
  obtain ⟨q,hq,h⟩:=Qag h
  rw [Qfq hq] at hc
  simp only [CRep] at hc
  refine ⟨_,h,Or.inr ⟨_,hu⟩,fun hs=> ?_⟩
  rcases hc with ⟨_,q2,q3⟩|⟨_,b,off,cap,es,q2,q3,q4,q5,q6⟩
  ·refine ⟨[],⟨fun w'=>by simp [q3,Builtin.lenOf,q2],fun w' _=>by simp [q3,Builtin.firstCells],by simp [q2]⟩,by simp [q2,CRepV]⟩
  ·obtain ⟨us,r1,r2,r3⟩:=q6.cells
   rw [QcJ hs] at r1
   by_cases hq0:q.2= []
   ·obtain ⟨ad1,q2,_⟩:=q2
    rw [hq0] at q2⊢
    exact ⟨[],⟨fun w'=>by simp [q2,Builtin.lenOf],fun w' _=>by simp [q2,Builtin.firstCells,loadCells,loadCellsFrom],by simp⟩,by simp [CRepV]⟩
   have q2:=q2.exact (.inr (by have:=List.length_pos_iff.2 hq0;omega))
   refine ⟨us,⟨fun w'=>by simp [q2,Builtin.lenOf],fun w' hw'=> ?_,r1⟩,r3⟩
   rw [q2]
   refine run_firstCells_some w' size _ _ _ _ us r1 fun j v hj=> ?_
   rw [Qbi,cell?_of_heap (w:=w) (by rw [hw'])]
   exact r2 j v hj
 ·simp [M.exec] at h
theorem Sim.step (S:Sim P B W0 d σ a w G) {w':World} {G':Gh} (p0:Place) (hM:Mem P B W0 w' G' σ.mem) (hN:Same .none w w' G G') (hS:∀j,Place.tmp d j≠p0→Same (.tmp d j) w w' G G')
  (hc:∀j,Place.tmp d j=p0→(nthD .any σ.tmps j).owns=false) (hr:Rest w w' G G') (hl:G'.lo d=G.lo d:=by rfl) (hz:w.heap.size≤w'.heap.size:=by first|exact Nat.le_refl _|simp):Sim P B W0 d σ a w' G':=by
 refine ⟨hM,S.depth,⟨S.fr.len,fun j=> ?_⟩,S.cfg,S.marks.of hr hl hz⟩
 by_cases e:Place.tmp d j=p0
 ·exact ARep.place (hc j e) (ARep.same hN hN _ (ARep.place (q:= .none) (hc j e) (S.fr.rep j)))
 ·exact ARep.same (hS j e) hN _ (S.fr.rep j)
theorem Qeo (w:World) (g:Nat) (cs:Array Value) (k:Nat) (h:k≠g):(w.setRow g cs).heap[k]?=w.heap[k]?:=by
 simp only [World.setRow,Array.getElem?_modify]
 rw [if_neg (Ne.symm h)]
theorem Below.setRow {B:Nat} (w:World) (g:Nat) (cs:Array Value) (h:B≤g):Below B w (w.setRow g cs):=
 ⟨rfl,rfl,rfl,by simp [World.setRow],fun k hk=>Qeo w g cs k (by omega)⟩
theorem Qkq {mem:MemT} (_M:Mem P B W0 w G mem) {g m:Nat} {p:Place} {p':Option Place} {cur row:Array Value} {e:TypeId} (hg:w.heap[g]?=some (.cells cur e (0,0))) (hp:G.own g=some p) (hm:G.hw g≤m)
  (hrow:∀i,i<G.hw g→row[i]?=cur[i]?) (hrs:row.size=cur.size) {q:Place} (hq:q≠p):Same q w (w.setRow g row) G (G.pub g m p'):=by
 refine ⟨⟨fun b=> ?_,fun b i hi=> ?_,fun b e' he=> ?_⟩,fun _ _ _ h=>h,fun b hb=> ?_⟩
 ·show G.hw b≤if b=g then m else G.hw b
  split
  ·rename_i h;rw [h];exact hm
  ·exact Nat.le_refl _
 ·by_cases eb:b=g
  ·subst eb
   unfold World.cell?
   simp only [setRow_heap w b cur row e (0,0) hg,hg]
   simpa using hrow i hi
  ·exact cell?_of_heap (Qeo w g row b eb) i
 ·by_cases eb:b=g
  ·subst eb
   have h1:QaX w b=some (e,cur.size):=by simp [QaX,World.shape?,hg]
   have h2:QaX (w.setRow b row) b=some (e,cur.size):=by simp [QaX,World.shape?,setRow_heap w b cur row e (0,0) hg,hrs]
   rw [h2,←h1];exact he
  ·rw [Qcc (Qeo w g row b eb)];exact he
 ·have eb:b≠g:=fun h=>by subst h;rw [hp] at hb;exact hq (Option.some.inj hb).symm
  exact ⟨by simp [Gh.pub,eb,hb],by simp [Gh.pub,eb],Qeo w g row b eb⟩
theorem Mem.grow {mem:MemT} (M:Mem P B W0 w G mem) {g m:Nat} {p p':Place} {cur row:Array Value} {e:TypeId} (hg:w.heap[g]?=some (.cells cur e (0,0))) (hp:G.own g=some p) (hpc:∀d s o,p≠ .cell d s o) (hm:G.hw g≤m)
  (hrow:∀i,i<G.hw g→row[i]?=cur[i]?) (hrs:row.size=cur.size) (hp':p'≠ .none):Mem P B W0 (w.setRow g row) (G.pub g m (some p')) mem:=by
 have hlo:=M.own g p hp
 have hsz:(w.setRow g row).heap.size=w.heap.size:=by simp [World.setRow]
 refine ⟨M.below.trans (Below.setRow w g row hlo.1),by rw [hsz];exact M.base,fun b q hq=> ?_,fun b hb=> ?_,M.blk,fun d s cs hbx=> ?_,M.inj,M.glob.keep (Qkq M hg hp hm hrow hrs (fun h=>hlo.2.2 h.symm)).keep⟩
 ·by_cases eb:b=g
  ·subst eb
   simp [Gh.pub] at hq
   exact ⟨hlo.1,by rw [hsz];exact hlo.2.1,by rw [←hq];exact hp'⟩
  ·simp [Gh.pub,eb] at hq
   have:=M.own b q hq
   exact ⟨this.1,by rw [hsz];exact this.2.1,this.2.2⟩
 ·rw [hsz] at hb
  have eb:b≠g:=by omega
  simp [Gh.pub,eb,M.hw b hb]
 ·obtain ⟨b,vs,T,fz,R⟩:=M.box d s cs hbx
  have eb:b≠g:=fun h=>by subst h;have:=R.own;rw [hp] at this;simp at this
  refine ⟨b,vs,T,fz,R.blk,R.lo,by rw [Qeo w g row b eb];exact R.heap,R.free,by simp [Gh.pub,eb,R.hw],by simp [Gh.pub,eb,R.own],⟨R.rep.len,fun i hi=> ?_⟩⟩
  obtain ⟨u,q1,q2,q3⟩:=R.rep.rep i hi
  exact ⟨u,q1,q2,ARep.same (Qkq M hg hp hm hrow hrs (by intro h;exact hpc d s i h.symm)) (Qkq M hg hp hm hrow hrs (by intro h;exact hlo.2.2 h.symm)) _ q3⟩
theorem QhS (z:Array Value) (n:Nat):(Builtin.zeroCells z n).size=n*z.size:=by simp [Builtin.zeroCells]
theorem Qxa {p:Place} {own n:Bool} {e:TypeId} {l new:List (List CV)} {v:Value} (h:ARep P w G p (.lst true (n&&new.isEmpty) e (l++new)) v):ARep P w G p (Qhm own n e l new) v:=by
 cases own with
 |true=>exact h
 |false=>simpa only [Qhm,ARep] using h.list
def AppRep (P:Program) (w:World) (G:Gh) (p:Place) (own n:Bool) (e:TypeId) (l new:List (List CV)) (v:Value):Prop:=
 ARep P w G p (Qhm own n e l new) v∧(own=false→new≠ []→ARep P w G p (.lst true false e (l++new)) v)
theorem AppRep.of {p:Place} {own n:Bool} {e:TypeId} {l new:List (List CV)} {v:Value} (h:ARep P w G p (.lst true (n&&new.isEmpty) e (l++new)) v):AppRep P w G p own n e l new v:=
 ⟨Qxa h,fun _ hn=>by
  have:(n&&new.isEmpty)=false:=by cases new with|nil=>exact (hn rfl).elim|cons _ _=>simp
  rw [this] at h;exact h⟩
theorem QtF (S:Sim P B W0 d σ a w G) {p0:Place} {t u ty e:TypeId} {own n:Bool} {l new:List (List CV)} {vs vx:Value} {news:List Value} (dst:Nat)
  (hs:ARep P w G p0 (.lst own n e l) vs) (hp0:∀d' s o,p0≠ .cell d' s o) (hp0':∀d' i,d'<d→p0≠ .tmp d' i) (hcp:∀j,Place.tmp d j=p0→(nthD .any σ.tmps j).owns=false)
  (ht:P.underlying t=some (.slice e)) (hu:P.underlying u=some .string∨∃e',P.underlying u=some (.slice e')) (hz:(QdM P e).isSome=true) (hby:0<P.bytesOf e)
  (hnew:∀c∈new,c.length=P.cellsOf e) (hsrc:Src P w (P.cellsOf e) vx new.length news) (hrep:CRepV w G.hw new.flatten news) (hroom:(l.length+new.length)*P.bytesOf e≤140737488355328):
  ∃v' w' G',(Builtin.append_ #[t,u] ty #[vs,vx]).run P w= .ok v' w'∧Sim P B W0 d σ a w' G'∧Keeps B d w w' G G'∧AppRep P w' G' (.tmp d dst) own n e l new v':=by
 obtain ⟨zc,hzc⟩:=Option.isSome_iff_exists.1 hz
 obtain ⟨i,z,hi,hiz,hisz,hiby,hzs⟩:∃(i:TypeInfo) (z:Value),P.info? e=some i∧i.zero=some z∧i.size=P.cellsOf e∧i.bytes=P.bytesOf e∧z.cells.size=P.cellsOf e:=by
  unfold QdM at hzc
  split at hzc
  ·rename_i ds i h1 h2
   split at hzc
   ·rename_i z hz'
    split at hzc
    ·rename_i hh
     simp only [Bool.and_eq_true,beq_iff_eq] at hh
     exact ⟨i,z,h2,hz',by simp [Program.cellsOf,h2],by simp [Program.bytesOf,h2],by simp [Program.cellsOf,h2,hh.2]⟩
    ·simp at hzc
   ·simp at hzc
  ·simp at hzc
 have hsrc':Src P w i.size vx new.length news:=by rw [hisz];exact hsrc
 have hall:∀c∈l++new,(∀c∈l,c.length=P.cellsOf e)→c.length=P.cellsOf e:=by
  intro c hc hl
  rcases List.mem_append.1 hc with h|h
  ·exact hl c h
  ·exact hnew c h
 have hlen63:l.length+new.length≤140737488355328:=by
  have:(l.length+new.length)*1≤(l.length+new.length)*P.bytesOf e:=Nat.mul_le_mul_left _ hby
  omega
 have grown:∀(base:Option Addr) (cap:Nat) (olds:List Value),vs= .slice base l.length cap→cap<l.length+new.length→(∀c∈l,c.length=P.cellsOf e)→
   (Builtin.firstCells i.size l.length (.slice base l.length cap)).run P w.drew= .ok olds.toArray w.drew→olds.length=l.length*P.cellsOf e→CRepV w G.hw l.flatten olds→
   ∃v' w' G',(Builtin.append_ #[t,u] ty #[vs,vx]).run P w= .ok v' w'∧Sim P B W0 d σ a w' G'∧Keeps B d w w' G G'∧ARep P w' G' (.tmp d dst) (.lst true (n&&new.isEmpty) e (l++new)) v':=by
  intro base cap olds hvs hcap hl hfirst holen horep
  have hrun:=QhT (ty:=ty) ht hu hi hiz hsrc' hfirst hcap (by omega) (growslice_fits hcap (by rw [hiby];exact hroom))
  have hC:=grownCap_ge w (l.length+new.length) cap e
  have hCm:=grownCap_le_maxLen w (l.length+new.length) cap e (by unfold maxLen;omega)
  generalize grownCap w (l.length+new.length) cap e=C at*
  have S1:=S.sameHeap (w':=w.drew) rfl (Below.refl B w).drew
  have S2:=S1.pub (.cells ((olds++news).toArray++Builtin.zeroCells z.cells (C-(l.length+new.length))) e) ((l.length+new.length)*P.cellsOf e) (some (.tmp d dst)) (by simp)
  have K2:=(Keeps.sameHeap (d:=d) (G:=G) (w:=w) (w':=w.drew) rfl (Below.refl B w).drew).trans (Keeps.pub S1.mem (.cells ((olds++news).toArray++Builtin.zeroCells z.cells (C-(l.length+new.length))) e) ((l.length+new.length)*P.cellsOf e) (some (.tmp d dst)))
  refine ⟨_,_,_,by rw [hvs];exact hrun,S2,K2, ?_⟩
  have hne:(n&&new.isEmpty)=false:=by
   cases hnn:new with
   |nil=>
    simp only [hnn,List.length_nil,Nat.add_zero] at hcap
    simp only [ARep] at hs
    rcases hs with ⟨h1,h2,h3⟩|⟨h1,_⟩
    ·rw [h2] at hcap;simp at hcap
    ·simp [h1]
   |cons _ _=>simp
  rw [hne]
  simp only [ARep]
  refine .inr ⟨trivial,w.heap.size,0,C, .mk (by simp),by simpa using hC,fun c hc=>hall c hc hl, ?_, ?_, .inr ⟨trivial, ?_⟩⟩
  ·simp [Gh.pub]
  ·have hrepv:CRepV w G.hw (l++new).flatten (olds++news):=by rw [List.flatten_append];exact horep.append hrep
   have hK:=K2.keep
   have hrep2:=CRepV.keep hK _ hrepv
   refine CRepLL.of_cells (us:=olds++news) (fun j u' hj=> ?_) hrep2
   have e1:=QjQ w.drew ((olds++news).toArray++Builtin.zeroCells z.cells (C-(l.length+new.length))) e (0,0) (0+j)
   have e2:w.drew.heap.size=w.heap.size:=rfl
   rw [e2] at e1
   rw [e1,Nat.zero_add]
   have hlt:j<(olds++news).length:=(List.getElem?_eq_some_iff.1 hj).1
   rw [Array.getElem?_append_left (by simpa using hlt)]
   simpa using hj
  ·refine ⟨by simp [Gh.pub],rfl,by simp [Gh.pub],hCm,_,heap_alloc_new w.drew _, ?_⟩
   have h1:=hsrc.size
   simp only [Array.size_append,List.size_toArray,List.length_append,QhS,hzs,holen,h1]
   have e3:C*P.cellsOf e=(l.length+new.length+(C-(l.length+new.length)))*P.cellsOf e:=by congr 1;omega
   rw [e3,Nat.add_mul,Nat.add_mul]
 have up:(∃v' w' G',(Builtin.append_ #[t,u] ty #[vs,vx]).run P w= .ok v' w'∧Sim P B W0 d σ a w' G'∧Keeps B d w w' G G'∧ARep P w' G' (.tmp d dst) (.lst true (n&&new.isEmpty) e (l++new)) v')→
   ∃v' w' G',(Builtin.append_ #[t,u] ty #[vs,vx]).run P w= .ok v' w'∧Sim P B W0 d σ a w' G'∧Keeps B d w w' G G'∧AppRep P w' G' (.tmp d dst) own n e l new v':=
  fun ⟨v',w',G',q1,q2,q3,q4⟩=>⟨v',w',G',q1,q2,q3,AppRep.of q4⟩
 have hs0:=hs
 simp only [ARep] at hs
 by_cases hnil:new= []
 ·
  subst hnil
  have h0:news= []:=List.eq_nil_of_length_eq_zero (by have:=hsrc'.size;simpa using this)
  subst h0
  rcases hs with ⟨h1,h2,h3⟩|⟨h1,b,off,cap,h2,h3,h4,h5,h6,h7⟩
  ·have hrun:=Qhd (ty:=ty) (base:=none) (sLen:=0) (sCap:=0) ht hu hi hsrc' (Nat.le_refl _)
   exact ⟨_,w,G,by rw [h3];exact hrun,S,Keeps.refl _ _ _ _,AppRep.of (by simp only [ARep];exact .inl ⟨by simp [h1],by simp [h2],trivial⟩)⟩
  ·obtain ⟨ad1,h2,h2e⟩:=h2
   have hrun:=Qhd (ty:=ty) (base:=some ad1) (sLen:=l.length) (sCap:=cap) ht hu hi hsrc' h3
   rcases h7 with h7|⟨hown1,h7⟩
   ·refine ⟨_,w,G,by rw [h2];exact hrun,S,Keeps.refl _ _ _ _, ?_,fun _ hn=>(hn rfl).elim⟩
    rw [h7.1]
    have q:=hs0.list
    rw [h2] at q
    simp only [Qhm,ARep,List.append_nil,List.isEmpty_nil,Bool.and_true]
    exact q
   ·have ho:=h7.1
    have hn0:p0≠ .none:=(S.mem.own b _ ho).2.2
    refine ⟨_,w,G.move b (.tmp d dst),by rw [h2];exact hrun,S.step p0 (S.mem.move ho (by simp) hp0) (QcM ho (Ne.symm hn0)) (fun j hj=>QcM ho hj) hcp (QkF ho),Keeps.move ho hp0',AppRep.of ?_⟩
    rw [List.append_nil,List.isEmpty_nil,Bool.and_true]
    simp only [ARep]
    refine .inr ⟨h1,b,off,cap,⟨ad1,rfl,fun _=>h2e (.inl hown1)⟩,h3,h4,h5, ?_, .inr ⟨trivial, ?_⟩⟩
    ·exact CRepLL.keep (Keep.refl _ _) l (by rw [QcJ h4];exact h5) h6
    ·obtain ⟨q1,q2,q3,q4,cur,q5,q6⟩:=h7
     exact ⟨by simp [Gh.move],q2,q3,q4,cur,q5,q6⟩
 ·have hpn:0<new.length:=List.length_pos_iff.2 hnil
  have hemp:(n&&new.isEmpty)=false:=by cases new with|nil=>exact (hnil rfl).elim|cons _ _=>simp
  rcases hs with ⟨h1,h2,h3⟩|⟨h1,b,off,cap,h2,h3,h4,h5,h6,h7⟩
  ·subst h2
   exact up (grown none 0 [] (by rw [h3];rfl) (by simp;exact hpn) (by simp) (by simp [Builtin.firstCells]) (by simp) (by simp [CRepV]))
  ·obtain ⟨olds,o1,o2,o3⟩:=h6.cells
   rw [QcJ h4] at o1
   by_cases hempty:own=false∧l= []
   ·obtain ⟨ho1,hl0⟩:=hempty
    obtain ⟨ad1,h2,_⟩:=h2
    have hcap0:cap=l.length:=by
     rcases h7 with h7|⟨h7,_⟩
     ·exact h7.2
     ·rw [ho1] at h7;cases h7
    subst hl0
    exact up (grown _ cap [] h2 (by rw [hcap0];simpa using hpn) h4 (by simp [Builtin.firstCells,loadCells,loadCellsFrom]) (by simp) (by simp [CRepV]))
   have h2:=h2.exact (by
    by_cases hl0:l= []
    ·left
     cases own with
     |true=>rfl
     |false=>exact absurd ⟨rfl,hl0⟩ hempty
    ·right
     have:=List.length_pos_iff.2 hl0
     omega)
   by_cases hfit:cap<l.length+new.length
   ·refine up (grown _ cap olds h2 hfit h4 ?_ o1 o3)
    refine run_firstCells_some w.drew i.size l.length _ _ _ olds (by rw [hisz];exact o1) fun j v hj=> ?_
    rw [Qbi,World.cell?_drew]
    exact o2 j v hj
   ·
    rcases h7 with h7|⟨_,h7⟩
    ·omega
    ·obtain ⟨ho,q2,q3,q4,cur,q5,q6⟩:=h7
     subst q2
     have hn0:p0≠ .none:=(S.mem.own b _ ho).2.2
     have hns:=hsrc.size
     have hle:l.length*P.cellsOf e+new.length*P.cellsOf e≤cap*P.cellsOf e:=by rw [←Nat.add_mul];exact Nat.mul_le_mul_right _ (by omega)
     have hrun:=QsJ (ty:=ty) (sLen:=l.length) (sCap:=cap) ht hu hi hsrc' q5 hrep.one (by omega) (by rw [hisz,q6,hns];exact hle)
     rw [hisz] at hrun
     generalize hrw:(cur.toList.take (l.length*P.cellsOf e)++news++cur.toList.drop (l.length*P.cellsOf e+news.length)).toArray=row at hrun
     have hrow:∀j,j<G.hw b→row[j]?=cur[j]?:=by
      intro j hj
      rw [←q3] at hj
      rw [←hrw]
      simp only [List.getElem?_toArray,List.append_assoc]
      rw [List.getElem?_append_left (by simp;omega),List.getElem?_take,if_pos hj]
      simp
     have hm:G.hw b≤(l.length+new.length)*P.cellsOf e:=by rw [←q3,Nat.add_mul];omega
     have hrs:row.size=cur.size:=by rw [←hrw];simp;omega
     have hSame:∀q,q≠p0→Same q w (w.setRow b row) G (G.pub b ((l.length+new.length)*P.cellsOf e) (some (.tmp d dst))):=fun q hq=>Qkq S.mem q5 ho hm hrow hrs hq
     have hK:Keeps B d w (w.setRow b row) G (G.pub b ((l.length+new.length)*P.cellsOf e) (some (.tmp d dst))):=
      ⟨(hSame .none (Ne.symm hn0)).keep,fun k d' j hd hk=>(hSame _ (fun q=>hp0' d' j hd q.symm)).own k hk,fun _ _ _ _ h=>h,Below.setRow w b row (S.mem.own b _ ho).1,fun k hk=>by have:=(S.mem.own b _ ho).1;simp [Gh.pub,show k≠b by omega],
        fun k _ hf=>by
        have e:k≠b:=fun e=>by subst e;have:=hf.1;rw [ho] at this;cases this
        exact ⟨⟨by simp [Gh.pub,e,hf.1],hf.2⟩,by simp [Gh.pub,e],Qeo w b row k e⟩,fun _ _=>rfl⟩
     refine ⟨_,_,_,by rw [h2];exact hrun,S.step p0 (S.mem.grow q5 ho hp0 hm hrow hrs (by simp)) (hSame _ (Ne.symm hn0)) (fun j hj=>hSame _ hj) hcp hK.rest rfl hK.below.size,hK,AppRep.of ?_⟩
     rw [hemp]
     simp only [ARep]
     have hheap:=setRow_heap w b cur row e (0,0) q5
     refine .inr ⟨trivial,b,0,cap, .mk (by simp),by simp;omega,fun c hc=>hall c hc h4,by simp [Gh.pub], ?_, .inr ⟨trivial, ?_⟩⟩
     ·have hrepv:CRepV w G.hw (l++new).flatten (olds++news):=by rw [List.flatten_append];exact o3.append hrep
      have hrep2:=CRepV.keep hK.keep _ hrepv
      refine CRepLL.of_cells (us:=olds++news) (fun j u' hj=> ?_) hrep2
      unfold World.cell?
      simp only [hheap,Nat.zero_add]
      rw [←hrw]
      simp only [Option.isSome_none,Bool.false_eq_true,if_false,List.getElem?_toArray,List.append_assoc]
      rw [List.getElem?_append] at hj
      split at hj
      ·rename_i hlt
       rw [o1] at hlt
       rw [List.getElem?_append_left (by simp;omega),List.getElem?_take,if_pos hlt]
       have:=o2 j u' hj
       unfold World.cell? at this
       simp only [q5,Nat.zero_add] at this
       simpa using this
      ·rename_i hlt
       rw [o1] at hlt hj
       have hjn:j-l.length*P.cellsOf e<news.length:=(List.getElem?_eq_some_iff.1 hj).1
       rw [List.getElem?_append_right (by simp;omega),List.getElem?_append_left (by simp;omega)]
       rw [←hj]
       congr 1
       simp;omega
     ·refine ⟨by simp [Gh.pub],rfl,by simp [Gh.pub],q4,row,hheap, ?_⟩
      rw [←hrw]
      simp
      omega
theorem QoG {γ:Type} {e:TypeId} {sv:AV} {v:Value} {p:Place} {acc:List Loc} {f:AV→List Loc→Option γ} {r:γ} (hs:ARep P w G p sv v)
  (h:(QpL e sv).exec call σ acc f=some r):∃sv',f sv' acc=some r∧ARep P w G p sv' v:=by
 cases sv with
 |val c=>
  simp only [QpL,M.exec] at h
  obtain ⟨q,hq,h⟩:=Qag h
  cases c with
  |list n l=>
   simp only [CV.asL,Option.some.injEq] at hq
   subst hq
   cases n with
   |true=>
    simp only [cond_true] at h
    obtain ⟨h1,h⟩:=Qaf h
    refine ⟨_,h, ?_⟩
    simp only [ARep,CRep] at hs⊢
    rcases hs with ⟨_,h2,h3⟩|⟨h2,_⟩
    ·exact .inl ⟨trivial,trivial,h3⟩
    ·cases h2
   |false=>simp at h
  |_=>simp [CV.asL] at hq
 |_=>exact ⟨_,by simpa only [QpL,M.exec] using h,hs⟩
structure SrcP (P:Program) (w:World) (size:Nat) (x:Value) (n:Nat) (news:List Value):Prop where
 len:∀w',(Builtin.lenOf x).run P w'= .ok n w'
 first:∀k,k≤n→∀w',w'.heap=w.heap→(Builtin.firstCells size k x).run P w'= .ok (news.take (k*size)).toArray w'
 size:news.length=n*size
theorem SrcP.src {size n:Nat} {x:Value} {news:List Value} (h:SrcP P w size x n news):Src P w size x n news:=
 ⟨h.len,fun w' hw=>by rw [h.first n (Nat.le_refl _) w' hw,List.take_of_length_le (by rw [h.size];exact Nat.le_refl _)],h.size⟩
theorem RowRep.crepC {b:Nat}:∀{c:List CV} {off:Nat},(∀j z,c[j]?=some z→∃u,w.cell? (Qas b (off+j))=some u∧u.oneCell'=true∧CRep w G.hw z u)→CRepC w G.hw b off c
 | [],off,_=>by simp [CRepC]
 |x::c,off,h=>by
  simp only [CRepC]
  refine ⟨?_,RowRep.crepC fun j z hj=> ?_⟩
  ·obtain ⟨u,q1,q2,q3⟩:=h 0 x (by simp)
   exact ⟨u,by simpa using q1,q2,q3⟩
  ·obtain ⟨u,q1,q2,q3⟩:=h (j+1) z (by simpa using hj)
   exact ⟨u,by rw [Nat.add_assoc,Nat.add_comm 1 j];exact q1,q2,q3⟩
theorem QrN {b es:Nat}:∀{l:List (List CV)} {off:Nat},(∀c∈l,c.length=es)→(∀i c,l[i]?=some c→∀j z,c[j]?=some z→∃u,w.cell? (Qas b (off+i*es+j))=some u∧u.oneCell'=true∧CRep w G.hw z u)→CRepLL w G.hw b off l
 | [],off,_,_=>by simp [CRepLL]
 |x::l,off,he,h=>by
  simp only [CRepLL]
  refine ⟨RowRep.crepC fun j z hj=> ?_,QrN (fun c hc=>he c (by simp [hc])) fun i c hi j z hj=> ?_⟩
  ·obtain ⟨u,q1,q2,q3⟩:=h 0 x (by simp) j z hj
   exact ⟨u,by simpa using q1,q2,q3⟩
  ·obtain ⟨u,q1,q2,q3⟩:=h (i+1) c (by simpa using hi) j z hj
   refine ⟨u, ?_,q2,q3⟩
   rw [←q1]
   congr 2
   rw [he x (by simp),Nat.add_mul];omega
theorem RowRep.crepLL {e:TypeId} {l:List (List CV)} {b:Nat} (R:RowRep P w G e l b):CRepLL w G.hw b 0 l:=
 QrN R.es fun i c hi j z hj=>by rw [Nat.zero_add];exact R.rep i c hi j z hj
theorem QlC {size:Nat} {u:TypeId} {p:Place} {x:AV} {vx:Value} (S:Sim P B W0 d σ a w G) (hx:ARep P w G p x vx) {f:List (List CV)→List Loc→Option β} (h:(srcR P u x).exec call σ acc f=some r) (hns:P.underlying u=some .string→False):
  ∃new acc' e',f new acc'=some r∧P.underlying u=some (.slice e')∧((∀c∈new,c.length=size)→∃news,SrcP P w size vx new.length news∧CRepV w G.hw new.flatten news):=by
 have part:∀{es:Nat} {l:List (List CV)} {us:List Value} {b off:Nat},us.length=l.length*size→(∀j u,us[j]?=some u→w.cell? (Qas b (off+j))=some u)→∀{cap:Nat},SrcP P w size (.slice (some (Qas b off)) l.length cap) l.length us:=by
  intro es l us b off r1 r2 cap
  refine ⟨fun w'=>by simp [Builtin.lenOf],fun k hk w' hw'=> ?_,r1⟩
  refine run_firstCells_some w' size _ _ _ _ (us.take (k*size)) (by rw [List.length_take,r1];exact Nat.min_eq_left (Nat.mul_le_mul_right _ hk)) fun j v hj=> ?_
  rw [Qbi,cell?_of_heap (w:=w) (by rw [hw'])]
  exact r2 j v (by rw [List.getElem?_take] at hj;split at hj;exact hj;cases hj)
 unfold srcR at h
 split at h
 ·rename_i e d' s off len cap
  split at h
  ·rename_i e' hu
   simp only [M.exec] at h
   obtain ⟨hee,h5⟩:=Qaf h
   have hee:=(eq_of_beq hee).symm
   subst hee
   rw [M.exec_bind] at h5
   obtain ⟨l,h6,hbx,hme⟩:=Qew h5
   simp only [M.exec] at h6
   obtain ⟨hle,h7⟩:=Qaf h6
   have hle:off+len≤l.length:=by simpa using hle
   refine ⟨_,_,_,h7,hu,fun hs=> ?_⟩
   simp only [ARep] at hx
   obtain ⟨b,ad,c,q,q1,q2,q3,q4,q5,q6,q7⟩:=hx
   have RR:=S.mem.row q1 hbx hme
   have hlen:((l.drop off).take len).length=len:=by simp;omega
   by_cases hl0:len=0
   ·subst hl0
    simp only [List.take_zero]
    exact ⟨[],⟨fun w'=>by simp [q2,Builtin.lenOf],fun k hk w' _=>by
     have:k=0:=by simpa using hk
     subst this
     simp [q2,Builtin.firstCells,loadCells,loadCellsFrom],by simp⟩,by simp [CRepV]⟩
   ·have q5:=q5 (by omega)
    have hsz:P.cellsOf e=size:=by
     have hm:(l.drop off)[0]?=some (l[off]'(by omega)):=by simp
     have hmem:l[off]'(by omega)∈(l.drop off).take len:=by
      rw [List.mem_iff_getElem?]
      exact ⟨0,by rw [List.getElem?_take,if_pos (by omega)];exact hm⟩
     rw [←hs _ hmem,RR.es _ (List.getElem_mem _)]
    have hpart:=RR.crepLL.part RR.es (lo:=off) (hi:=off+len) (by omega) hle
    have e1:(l.take (off+len)).drop off=(l.drop off).take len:=by
     rw [List.take_drop]
    rw [e1,Nat.zero_add] at hpart
    obtain ⟨us,r1,r2,r3⟩:=hpart.cells
    rw [QcJ hs] at r1
    refine ⟨us, ?_,r3⟩
    rw [q2,q5]
    have:=part (es:=0) (l:=(l.drop off).take len) r1 r2 (cap:=c)
    rw [hlen] at this⊢
    exact this
  ·simp [M.exec] at h
 ·unfold srcM at h
  split at h
  ·rename_i hu;exact (hns hu).elim
  ·rename_i e' hu
   rw [M.exec_bind] at h
   obtain ⟨c,h,hc⟩:=QaH hx h
   simp only [M.exec] at h
   obtain ⟨q,hq,h⟩:=Qag h
   rw [Qfq hq] at hc
   simp only [CRep] at hc
   refine ⟨_,_,_,h,hu,fun hs=> ?_⟩
   rcases hc with ⟨_,q2,q3⟩|⟨_,b,off,cap,es,q2,q3,q4,q5,q6⟩
   ·refine ⟨[],⟨fun w'=>by simp [q3,Builtin.lenOf,q2],fun k hk w' _=>by simp [q3,Builtin.firstCells],by simp [q2]⟩,by simp [q2,CRepV]⟩
   ·obtain ⟨us,r1,r2,r3⟩:=q6.cells
    rw [QcJ hs] at r1
    by_cases hq0:q.2= []
    ·obtain ⟨ad1,q2,_⟩:=q2
     rw [hq0] at q2⊢
     exact ⟨[],⟨fun w'=>by simp [q2,Builtin.lenOf],fun k hk w' _=>by
      have:k=0:=by simpa using hk
      subst this
      simp [q2,Builtin.firstCells,loadCells,loadCellsFrom],by simp⟩,by simp [CRepV]⟩
    have q2:=q2.exact (.inr (by have:=List.length_pos_iff.2 hq0;omega))
    refine ⟨us, ?_,r3⟩
    rw [q2]
    exact part (es:=0) r1 r2
  ·simp [M.exec] at h
theorem Qkf {t u ty e:TypeId} {i:TypeInfo} (ht:P.underlying t=some (.slice e)) (hu:P.underlying u=some .string∨∃e',P.underlying u=some (.slice e'))
  (hi:P.info? e=some i) {x:Value} {n:Nat} {news:List Value} (hx:Src P w i.size x n news) {ad:Addr} {sLen sCap:Nat} (hroom:sLen+n≤sCap) {w':World}
  (hst:(storeCells (ad.add (sLen*i.size)) news).run P w= .ok () w'):
  (Builtin.append_ #[t,u] ty #[.slice (some ad) sLen sCap,x]).run P w= .ok (.slice (some ad) (sLen+n) sCap) w':=by
 have e1:=hx.len w
 have e2:=hx.first w rfl
 rcases hu with hud|⟨e',hud⟩<;>simp [Builtin.append_,run_underlying ht,run_underlying hud,sizeOf,typeInfo,hi,e1,hroom,e2,hst]
theorem QlR {e:TypeId} (hz:(QdM P e).isSome=true):∃(i:TypeInfo) (z:Value),P.info? e=some i∧i.zero=some z∧i.size=P.cellsOf e∧i.bytes=P.bytesOf e∧z.cells.size=P.cellsOf e∧∀v∈z.cells.toList,v.oneCell'=true:=by
 obtain ⟨zc,hzc⟩:=Option.isSome_iff_exists.1 hz
 have hz0:=hzc
 unfold QdM at hzc
 split at hzc
 ·rename_i ds i h1 h2
  split at hzc
  ·rename_i z hz'
   split at hzc
   ·rename_i hh
    simp only [Bool.and_eq_true,beq_iff_eq] at hh
    refine ⟨i,z,h2,hz',by simp [Program.cellsOf,h2],by simp [Program.bytesOf,h2],by simp [Program.cellsOf,h2,hh.2],fun v hv=> ?_⟩
    have hc:=Qgv (P:=P) (w:=default) (G:=⟨fun _ _=>none,fun _=>0,fun _=>none,fun _=>0⟩) hh.1 fun _=> .none
    obtain ⟨j,hj,rfl⟩:=List.getElem_of_mem hv
    obtain ⟨u,q1,q2,_⟩:=hc.rep j (by rw [←hc.len];exact hj)
    rw [List.getElem?_eq_getElem hj] at q1
    cases q1
    exact q2
   ·simp at hzc
  ·simp at hzc
 ·simp at hzc
theorem QmC {z:Array Value} {n:Nat} (h:∀v∈z.toList,v.oneCell'=true):∀v∈(Builtin.zeroCells z n).toList,v.oneCell'=true:=by
 intro v hv
 simp only [Builtin.zeroCells,Array.toList_map,List.mem_map] at hv
 obtain ⟨i,hi,rfl⟩:=hv
 by_cases hz:z.size=0
 ·simp [hz] at hi
 ·have:i%z.size<z.size:=Nat.mod_lt _ (by omega)
  rw [getElem!_pos z _ this]
  exact h _ (by simp)
theorem ARep.scrub0 {p:Nat→Nat→Bool} {pl:Place} {v:AV} {x:Value} (h:ARep P w G pl v x):ARep P w G pl (v.scrub p) x:=by
 unfold AV.scrub
 split
 ·simp [ARep]
 ·exact h
theorem Qe6 {p:Nat→Nat→Bool} {c:List AV}:Qaz (c.map (AV.scrub p))=Qaz c:=by
 cases c with
 |nil=>rfl
 |cons x r=>
  cases r with
  |cons y r=>rfl
  |nil=>
   show Qaz [x.scrub p]=Qaz [x]
   cases x with
   |row e l=>rfl
   |_=>unfold AV.scrub;split<;>rfl
theorem QtC {p:Nat→Nat→Bool} (c:List AV):xp (c.map (AV.scrub p))=(xp c).map (AV.scrub p):=by
 cases hr:Qaz c with
 |false=>rw [Qge hr,Qge (by rw [Qe6];exact hr)]
 |true=>
  obtain ⟨e,l,rfl⟩:=Qc8 hr
  have: [AV.row e l].map (AV.scrub p)= [.row e l]:=rfl
  rw [this,Qg3,List.map_map]
  rfl
theorem QlA {p:Nat→Nat→Bool} {b:Nat} {cs:List AV} {vs:Array Value} {T:TypeId} {fz:Nat×Nat} (h:∃ob,w.heap[b]?=some ob∧(Qc9 cs=false→ob= .cells vs T fz)∧∀l,cs= [.row mapE l]→∃es ck,ob= .map es ck∧MapRow es.toList l):
  ∃ob,w.heap[b]?=some ob∧(Qc9 (cs.map (AV.scrub p))=false→ob= .cells vs T fz)∧∀l,cs.map (AV.scrub p)= [.row mapE l]→∃es ck,ob= .map es ck∧MapRow es.toList l:=by
 obtain ⟨ob,h1,h2,h3⟩:=h
 cases hr:Qaz cs with
 |true=>
  obtain ⟨e,l,rfl⟩:=Qc8 hr
  exact ⟨ob,h1,h2,h3⟩
 |false=>
  refine ⟨ob,h1,fun _=>h2 (Qbw hr),fun l q=> ?_⟩
  have:=Qe6 (p:=p) (c:=cs)
  rw [q,hr] at this
  simp [Qaz] at this
theorem CellsRep.scrub {p:Nat→Nat→Bool} {G':Gh} {d s:Nat} {cs:List AV} {vs:List Value} (h:CellsRep P w G d s cs vs)
  (f:∀o v x,ARep P w G (.cell d s o) v x→ARep P w G' (.cell d s o) (v.scrub p) x):CellsRep P w G' d s (cs.map (AV.scrub p)) vs:=by
 refine ⟨⟨fun hr=>by rw [List.length_map];exact h.len.1 (by rw [←Qe6 (p:=p)];exact hr),fun e l q=> ?_⟩,fun o ho=> ?_⟩
 ·have hr:Qaz cs=true:=by rw [←Qe6 (p:=p),q];rfl
  obtain ⟨e',l',rfl⟩:=Qc8 hr
  have: [AV.row e' l'].map (AV.scrub p)= [.row e' l']:=rfl
  rw [this] at q
  cases q
  exact h.len.2 e l rfl
 ·rw [QtC,List.length_map] at ho
  obtain ⟨v,q1,q2,q3⟩:=h.rep o ho
  refine ⟨v,q1,q2, ?_⟩
  have e:nthD .any ((xp cs).map (AV.scrub p)) o=(nthD .any (xp cs) o).scrub p:=by
   rw [Qar,Qar,List.getElem?_map]
   cases (xp cs)[o]?<;>rfl
  rw [QtC,e]
  exact f o _ _ q3
section
variable {p:Nat→Nat→Bool}
def Gh.drop (G:Gh) (p:Nat→Nat→Bool):Gh:={G with blk:=fun d s=>if p d s then none else G.blk d s}
mutual
theorem ARep.drop {pl:Place} (hpl:∀d s o,pl= .cell d s o→p d s=false):∀(a:AV) {v:Value},a.hasPtr p=false→ARep P w G pl a v→ARep P w (G.drop p) pl a v
 | .any,_,_,_=>by simp [ARep]
 | .undef,_,_,x=>by simpa [ARep] using x
 | .val c,v,_,x=>by simp only [ARep] at x⊢;exact x
 | .lst own isnil e l,v,_,x=>by simp only [ARep,Spare] at x⊢;exact x
 | .ptr d s off,v,h,x=>by
  simp only [ARep] at x⊢
  simp only [AV.hasPtr] at h
  obtain ⟨b,h1,h2⟩:=x
  exact ⟨b,by simp [Gh.drop,h,h1],h2⟩
 | .cptr c off,v,_,x=>by simp only [ARep] at x⊢;exact x
 | .siter s pos,v,_,x=>by simp only [ARep] at x⊢;exact x
 | .bld T,v,_,x=>by
  simp only [ARep] at x⊢
  obtain ⟨d,s,b,h1,h2,h3⟩:=x
  exact ⟨d,s,b,h1,by simp [Gh.drop,hpl d s 0 h1,h2],h3⟩
 | .row e l,v,_,x=>by simp [ARep] at x
 | .rsl e d s off len cap,v,h,x=>by
  simp only [ARep] at x⊢
  simp only [AV.hasPtr] at h
  obtain ⟨b,ad,c,q,h1,h2⟩:=x
  exact ⟨b,ad,c,q,by simp [Gh.drop,h,h1],h2⟩
 | .rptr e d s i o,v,h,x=>by
  simp only [ARep] at x⊢
  simp only [AV.hasPtr] at h
  obtain ⟨b,h1,h2⟩:=x
  exact ⟨b,by simp [Gh.drop,h,h1],h2⟩
 | .mpp d s,v,h,x=>by
  simp only [ARep] at x⊢
  simp only [AV.hasPtr] at h
  obtain ⟨b,h1,h2⟩:=x
  exact ⟨b,by simp [Gh.drop,h,h1],h2⟩
 | .clo f caps,v,h,x=>by
  simp only [ARep] at x⊢
  simp only [AV.hasPtr] at h
  obtain ⟨vs,h1,h2⟩:=x
  exact ⟨vs,h1,ARepL.drop caps h h2⟩
 | .agg cs,v,h,x=>by
  simp only [ARep] at x⊢
  simp only [AV.hasPtr] at h
  obtain ⟨vs,h1,h2,h3⟩:=x
  exact ⟨vs,h1,ARepL.drop cs h h2,h3⟩
 | .tup cs,v,h,x=>by
  simp only [ARep] at x⊢
  simp only [AV.hasPtr] at h
  obtain ⟨vs,h1,h2⟩:=x
  exact ⟨vs,h1,ARepL.drop cs h h2⟩
theorem ARepL.drop:∀(l:List AV) {vs:List Value},AV.hasPtrs p l=false→ARepL P w G l vs→ARepL P w (G.drop p) l vs
 | [],_,_,x=>by simpa [ARepL] using x
 |c::cs,vs,h,x=>by
  simp only [ARepL] at x⊢
  simp only [AV.hasPtrs,Bool.or_eq_false_iff] at h
  obtain ⟨v,r,h1,h2,h3⟩:=x
  exact ⟨v,r,h1,ARep.drop (by intro d s o h;cases h) c h.1 h2,ARepL.drop cs h.2 h3⟩
end
theorem ARep.scrub {pl:Place} (hpl:∀d s o,pl= .cell d s o→p d s=false) {v:AV} {x:Value} (h:ARep P w G pl v x):ARep P w (G.drop p) pl (v.scrub p) x:=by
 unfold AV.scrub
 split
 ·simp [ARep]
 ·rename_i hp;exact ARep.drop hpl v hp h
def Qbp (p:Nat→Nat→Bool) (mem:MemT) (d s:Nat):Option (List AV):=if p d s then none else (box? mem d s).map fun c=>c.map (AV.scrub p)
theorem Mem.drop {mem mem':MemT} (M:Mem P B W0 w G mem) (h:∀d s,box? mem' d s=Qbp p mem d s):Mem P B W0 w (G.drop p) mem':=by
 refine ⟨M.below,M.base,M.own,M.hw,fun d s hb=> ?_,fun d s cs hb=> ?_,fun d s d' s' b h1 h2=> ?_,M.glob⟩
 ·show (if p d s then none else G.blk d s)=none
  rw [h] at hb
  unfold Qbp at hb
  by_cases hp:p d s=true
  ·rw [if_pos hp]
  ·rw [if_neg hp] at hb⊢
   exact M.blk d s (by simpa using hb)
 ·rw [h] at hb
  unfold Qbp at hb
  by_cases hp:p d s=true
  ·rw [if_pos hp] at hb;cases hb
  ·rw [if_neg hp] at hb
   obtain ⟨c,hc,rfl⟩:=Option.map_eq_some_iff.1 hb
   obtain ⟨b,vs,T,fz,R⟩:=M.box d s c hc
   refine ⟨b,vs,T,fz,by show (if p d s then none else G.blk d s)=some b;rw [if_neg hp];exact R.blk,R.lo,QlA R.heap,R.free,R.hw,R.own,R.rep.scrub fun o v x h=>h.scrub (by intro d' s' o' h;cases h;simpa using hp)⟩
 ·have h1:(if p d s then none else G.blk d s)=some b:=h1
  have h2:(if p d' s' then none else G.blk d' s')=some b:=h2
  by_cases hp:p d s=true
  ·rw [if_pos hp] at h1;cases h1
  ·by_cases hp':p d' s'=true
   ·rw [if_pos hp'] at h2;cases h2
   ·rw [if_neg hp] at h1;rw [if_neg hp'] at h2
    exact M.inj d s d' s' b h1 h2
theorem Qkr:Rest w w G (G.drop p):=fun b _ hf=>⟨⟨hf.1,fun d' s hb=>by
  simp only [Gh.drop] at hb
  split at hb
  ·cases hb
  ·exact hf.2 d' s hb⟩,rfl,rfl⟩
theorem Keeps.drop (h:∀d' s,d'<d→p d' s=false):Keeps B d w w G (G.drop p):=
 ⟨Keep.refl _ _,fun _ _ _ _ h=>⟨h,rfl,rfl⟩,fun d' s b hd hb=>by simp [Gh.drop,h d' s hd,hb],Below.refl _ _,fun _ _=>rfl,Qkr,fun _ _=>rfl⟩
theorem box?_scrub (mem:MemT) (d s:Nat):box? (Qaw p mem) d s=(box? mem d s).map fun c=>c.map (AV.scrub p):=by
 unfold box? Qaw
 simp only [Qar,List.getElem?_map]
 cases h:mem[d]? with
 |none=>simp
 |some l=>
  simp only [Option.map_some,Option.getD_some,List.getElem?_map]
  cases l[s]? with
  |none=>rfl
  |some b=>cases b<;>rfl
end
theorem Mem.scrub0 {mem:MemT} (M:Mem P B W0 w G mem) (p:Nat→Nat→Bool):Mem P B W0 w G (Qaw p mem):=by
 refine ⟨M.below,M.base,M.own,M.hw,fun d s hb=> ?_,fun d s cs hb=> ?_,M.inj,M.glob⟩
 ·rw [box?_scrub] at hb
  exact M.blk d s (by simpa using hb)
 ·rw [box?_scrub] at hb
  obtain ⟨c,hc,rfl⟩:=Option.map_eq_some_iff.1 hb
  obtain ⟨b,vs,T,fz,R⟩:=M.box d s c hc
  exact ⟨b,vs,T,fz,R.blk,R.lo,QlA R.heap,R.free,R.hw,R.own,R.rep.scrub fun o v x h=>h.scrub0⟩
theorem Sim.scrub0 (S:Sim P B W0 d σ a w G) (p:Nat→Nat→Bool):Sim P B W0 d {tmps:=σ.tmps.map (AV.scrub p),mem:=Qaw p σ.mem,K:=σ.K} a w G:=by
 refine ⟨S.mem.scrub0 p,by simp [Qaw];exact S.depth,⟨by simp [S.fr.len],fun i=> ?_⟩,S.cfg,S.marks⟩
 have e:nthD .any (σ.tmps.map (AV.scrub p)) i=(nthD .any σ.tmps i).scrub p:=by
  rw [Qar,Qar,List.getElem?_map]
  cases σ.tmps[i]?<;>rfl
 rw [e]
 exact (S.fr.rep i).scrub0
theorem QoX {e:TypeId} {l:List (List CV)} {us zs:List Value} (he:∀c∈l,c.length=P.cellsOf e) (hr:CRepV w G.hw l.flatten us) (hz:∀v∈zs,v.oneCell'=true) (d s:Nat):CellsRep P w G d s [.row e l] (us++zs):=by
 have hl:=hr.length
 refine ⟨Fits.row (by rw [List.length_append,hl];omega) he (fun v hv=> ?_),fun o ho=> ?_⟩
 ·rcases List.mem_append.1 hv with hv|hv
  ·exact hr.one v hv
  ·exact hz v hv
 ·rw [Qg3] at ho⊢
  obtain ⟨u,q1,q2,q3⟩:=(hr.cells (P:=P) (pl:=fun i=> .cell d s i)).rep o ho
  exact ⟨u,by rw [List.getElem?_append_left (List.getElem?_eq_some_iff.1 q1).1];exact q1,q2,q3⟩
theorem Ql0 (w:World) (c:Array Value) (t:TypeId) (fz:Nat×Nat):QaX (w.alloc (.cells c t fz)) w.heap.size=some (t,c.size):=by
 unfold QaX World.shape?
 rw [heap_alloc_new]
theorem Sim.rehome (S:Sim P B W0 d σ a w G) {u:Nat} {e:TypeId} {l:List (List CV)} {us zs:List Value} (hin:u<(nthD [] σ.mem d).length) (he:∀c∈l,c.length=P.cellsOf e) (hr:CRepV w G.hw l.flatten us) (hz:∀v∈zs,v.oneCell'=true) (T:TypeId) (hme:e≠mapE):
  ∃G',Sim P B W0 d {tmps:=σ.tmps.map (AV.scrub (atP d u)),mem:=QaI (Qaw (atP d u) σ.mem) d u [.row e l],K:=σ.K} a (w.drew.alloc (.cells (us++zs).toArray T)) G'∧
   Keeps B d w (w.drew.alloc (.cells (us++zs).toArray T)) G G'∧G'.blk d u=some w.heap.size:=by
 have hd:d<σ.mem.length:=by rw [S.depth];omega
 have hbox:∀d1 s1,box? (Qaw (atP d u) (setN σ.mem d (setN (nthD [] σ.mem d) u none))) d1 s1=Qbp (atP d u) σ.mem d1 s1:=by
  intro d1 s1
  rw [box?_scrub]
  unfold Qbp box?
  rw [QaL]
  by_cases e1:d1=d
  ·subst e1
   rw [if_pos ⟨rfl,hd⟩,QaL]
   by_cases e2:s1=u
   ·subst e2
    rw [if_pos ⟨rfl,hin⟩]
    simp [atP]
   ·rw [if_neg (fun q=>e2 q.1)]
    simp [atP,e2]
  ·rw [if_neg (fun q=>e1 q.1)]
   simp [atP,e1]
 have S1:Sim P B W0 d {tmps:=σ.tmps.map (AV.scrub (atP d u)),mem:=Qaw (atP d u) (setN σ.mem d (setN (nthD [] σ.mem d) u none)),K:=σ.K} a w (G.drop (atP d u)):=by
  refine ⟨S.mem.drop hbox,by simp [Qaw,QaK];exact S.depth,⟨by simp [S.fr.len],fun i=> ?_⟩,S.cfg,S.marks.of Qkr⟩
  have e:nthD .any (σ.tmps.map (AV.scrub (atP d u))) i=(nthD .any σ.tmps i).scrub (atP d u):=by
   rw [Qar,Qar,List.getElem?_map]
   cases σ.tmps[i]?<;>rfl
  rw [e]
  exact (S.fr.rep i).scrub (by intro d s o h;cases h)
 have K1:Keeps B d w w G (G.drop (atP d u)):=Keeps.drop fun d' s hlt=>by
  have:(d'==d)=false:=by simp;omega
  simp [atP,this]
 have S2:=S1.sameHeap (w':=w.drew) rfl (Below.refl B w).drew
 have K2:=K1.trans (Keeps.sameHeap (d:=d) (G:=G.drop (atP d u)) (w:=w) (w':=w.drew) rfl (Below.refl B w).drew)
 have hn:box? (Qaw (atP d u) (setN σ.mem d (setN (nthD [] σ.mem d) u none))) d u=none:=by rw [hbox];simp [Qbp,atP]
 have hin2:u<(nthD [] (Qaw (atP d u) (setN σ.mem d (setN (nthD [] σ.mem d) u none))) d).length:=by
  have:nthD [] (Qaw (atP d u) (setN σ.mem d (setN (nthD [] σ.mem d) u none))) d=(setN (nthD [] σ.mem d) u none).map fun b=>match b with|some c=>some (c.map (AV.scrub (atP d u)))|none=>none:=by
   unfold Qaw
   rw [Qec _ [] [] rfl,QaL,if_pos ⟨rfl,hd⟩]
   rfl
  rw [this]
  simp [QaK,hin]
 obtain ⟨S3,K3⟩:=S2.newBox0 (T:=T) hn hin2 (QoX he (CRepV.keep K2.keep _ hr) hz d u) (QeB hme)
 refine ⟨_,⟨S3.mem.congr fun d1 s1=> ?_,by rw [Qcf];simp [Qaw];exact S.depth,S3.fr,S3.cfg,S3.marks⟩,K2.trans K3,by simp [Gh.put]⟩
 rw [Qa4,Qa4]
 have l1:d<(Qaw (atP d u) σ.mem).length:=by simp [Qaw];exact hd
 have l2:u<(nthD [] (Qaw (atP d u) σ.mem) d).length:=by
  unfold Qaw
  rw [Qec _ [] [] rfl]
  simpa using hin
 have l3:d<(Qaw (atP d u) (setN σ.mem d (setN (nthD [] σ.mem d) u none))).length:=by simp [Qaw,QaK];exact hd
 by_cases hds:d1=d∧s1=u
 ·rw [if_pos ⟨hds.1,hds.2,l1,l2⟩,if_pos ⟨hds.1,hds.2,l3,hin2⟩]
 ·rw [if_neg (fun z=>hds ⟨z.1,z.2.1⟩),if_neg (fun z=>hds ⟨z.1,z.2.1⟩),hbox,box?_scrub]
  unfold Qbp
  have:atP d u d1 s1=false:=by
   cases h:atP d u d1 s1 with
   |false=>rfl
   |true=>simp [atP] at h;exact (hds h).elim
  rw [this];simp
theorem Qwb (S:Sim P B W0 d σ a w G) {p0:Place} {t ut ty e:TypeId} {u len cap:Nat} {l new:List (List CV)} {vs vx:Value} {news:List Value}
  (hs:ARep P w G p0 (.rsl e d u 0 len cap) vs) (hbx:box? σ.mem d u=some [.row e l]) (hlen:len=l.length) (hne:new≠ [])
  (ht:P.underlying t=some (.slice e)) (hu:P.underlying ut=some .string∨∃e',P.underlying ut=some (.slice e')) (hz:(QdM P e).isSome=true) (hby:0<P.bytesOf e)
  (hnew:∀c∈new,c.length=P.cellsOf e) (hsrc:Src P w (P.cellsOf e) vx new.length news) (hrep:CRepV w G.hw new.flatten news) (hroom:(l.length+new.length)*P.bytesOf e≤140737488355328) (hme:e≠mapE):
  ∃v' w' G',(Builtin.append_ #[t,ut] ty #[vs,vx]).run P w= .ok v' w'∧
   Sim P B W0 d {tmps:=σ.tmps.map (AV.scrub (atP d u)),mem:=QaI (Qaw (atP d u) σ.mem) d u [.row e (l++new)],K:=σ.K} a w' G'∧Keeps B d w w' G G'∧
   ∀p,ARep P w' G' p (.rsl e d u 0 (len+new.length) (len+new.length)) v':=by
 subst hlen
 obtain ⟨i,z,hi,hiz,hisz,hiby,hzs,hz1⟩:=QlR hz
 have hsrc':Src P w i.size vx new.length news:=by rw [hisz];exact hsrc
 simp only [ARep] at hs
 obtain ⟨b,ad,c,q,q1,q2,q3,q4,q5,q6,q7⟩:=hs
 have RR:=S.mem.row q1 hbx hme
 have hpn:0<new.length:=List.length_pos_iff.2 hne
 have hin:=Qis hbx
 have hall:∀c∈l++new,c.length=P.cellsOf e:=by
  intro c hc
  rcases List.mem_append.1 hc with h|h
  ·exact RR.es c h
  ·exact hnew c h
 have hlen63:l.length+new.length≤140737488355328:=by
  have:(l.length+new.length)*1≤(l.length+new.length)*P.bytesOf e:=Nat.mul_le_mul_left _ hby
  omega
 have fl:=Qc0 RR.es
 have fn:=Qc0 hnew
 by_cases hfit:l.length+new.length≤c
 ·
  have q5:=q5 (by omega)
  subst q5
  have hov:∀n T,QaX w b=some (T,l.flatten.length+n)→l.length*P.cellsOf e+new.flatten.length≤l.flatten.length+n∧∃n',(l++new).flatten.length+n'=l.flatten.length+n∧
    QcI (l.flatten.map .val++List.replicate n .any) (l.length*P.cellsOf e) (new.flatten.map .val)=(l++new).flatten.map .val++List.replicate n' .any:=by
   intro n T hT
   rw [q6] at hT
   simp only [Option.some.injEq] at hT
   rw [hT] at q7
   simp only at q7
   have h1:(l.length+new.length)*P.cellsOf e≤(0+c)*P.cellsOf e:=Nat.mul_le_mul_right _ (by omega)
   rw [Nat.add_mul] at h1
   refine ⟨by omega,n-new.flatten.length,by simp only [List.flatten_append,List.length_append];omega, ?_⟩
   rw [←fl,QoC _ _ _ (by omega),List.flatten_append]
  obtain ⟨w',hst,S',K'⟩:=S.storeRow q1 hbx hov hall hrep hme
  have hrun:=Qkf (ty:=ty) (ad:=Qas b (0*P.cellsOf e)) (sLen:=l.length) (sCap:=c) ht hu hi hsrc' hfit (w':=w') (by rw [Qbi,hisz];simpa using hst)
  have S2:=S'.scrub0 (atP d u)
  refine ⟨_,w',G,by rw [q2];exact hrun,⟨S2.mem.congr fun d1 s1=> ?_,by rw [Qcf];simp [Qaw];exact S.depth,S2.fr,S2.cfg,S2.marks⟩,K',fun p=> ?_⟩
  ·rw [box?_scrub,Qa4,Qa4]
   have l1:d<(Qaw (atP d u) σ.mem).length:=by simp [Qaw];exact hin.1
   have l2:u<(nthD [] (Qaw (atP d u) σ.mem) d).length:=by
    unfold Qaw
    rw [Qec _ [] [] rfl]
    simpa using hin.2
   by_cases hds:d1=d∧s1=u
   ·rw [if_pos ⟨hds.1,hds.2,l1,l2⟩,if_pos ⟨hds.1,hds.2,hin.1,hin.2⟩]
    rfl
   ·rw [if_neg (fun z=>hds ⟨z.1,z.2.1⟩),if_neg (fun z=>hds ⟨z.1,z.2.1⟩),box?_scrub]
  ·simp only [ARep]
   exact ⟨b,_,c,q,q1,rfl,Nat.le_refl _,hfit,fun _=>rfl,K'.keep.elem b q q6,q7⟩
 ·
  obtain ⟨olds,o1,o2,o3⟩:=RR.crepLL.cells
  rw [QcJ RR.es] at o1
  have hfirst:(Builtin.firstCells i.size l.length (.slice (some ad) l.length c)).run P w.drew= .ok olds.toArray w.drew:=by
   by_cases hl0:l.length=0
   ·have:olds= []:=List.eq_nil_of_length_eq_zero (by rw [o1,hl0];simp)
    rw [this,hl0]
    simp [Builtin.firstCells,loadCells,loadCellsFrom]
   ·have q5:=q5 (by omega)
    subst q5
    refine run_firstCells_some w.drew i.size l.length _ _ _ olds (by rw [hisz];exact o1) fun j v hj=> ?_
    rw [Qbi,World.cell?_drew]
    have:=o2 j v hj
    simpa using this
  have hrun:=QhT (ty:=ty) ht hu hi hiz hsrc' hfirst (by omega) (by omega) (growslice_fits (by omega) (by rw [hiby];exact hroom))
  have hC:=grownCap_ge w (l.length+new.length) c e
  generalize grownCap w (l.length+new.length) c e=C at*
  have hrv:CRepV w G.hw (l++new).flatten (olds++news):=by rw [List.flatten_append];exact o3.append hrep
  obtain ⟨G',S',K',hb'⟩:=S.rehome (e:=e) hin.2 hall hrv (QmC (n:=C-(l.length+new.length)) hz1) e hme
  have harr:((olds++news)++(Builtin.zeroCells z.cells (C-(l.length+new.length))).toList).toArray=(olds++news).toArray++Builtin.zeroCells z.cells (C-(l.length+new.length)):=by apply Array.ext';simp
  rw [harr] at S' K'
  refine ⟨_,_,G',by rw [q2];exact hrun,S',K',fun p=> ?_⟩
  simp only [ARep]
  refine ⟨w.heap.size,_,C,_,hb',rfl,Nat.le_refl _,hC,fun _=>by simp,Ql0 w.drew _ _ _, ?_⟩
  have h1:=hsrc.size
  simp only [Array.size_append,List.size_toArray,List.length_append,QhS,hzs,o1,h1]
  have e3:(0+C)*P.cellsOf e=(l.length+new.length+(C-(l.length+new.length)))*P.cellsOf e:=by congr 1;omega
  rw [e3,Nat.add_mul,Nat.add_mul]
  exact Nat.le_refl _
theorem QlT (z:Array Value) (_hz:0<z.size):∀n:Nat,((Array.range (n*z.size)).map (fun i=>z[i%z.size]!)).toList=(List.replicate n z.toList).flatten:=by
 intro n
 simp only [Array.toList_map,Array.toList_range]
 induction n with
 |zero=>simp
 |succ n ih=>
  rw [Nat.add_mul,Nat.one_mul,List.range_add,List.map_append,ih,List.replicate_succ',List.flatten_append]
  congr 1
  simp only [List.map_map,List.flatten_cons,List.flatten_nil,List.append_nil]
  apply List.ext_getElem
  ·simp
  ·intro i h1 h2
   simp at h1
   have e:(n*z.size+i)%z.size=i:=by rw [Nat.mul_add_mod_self_right];exact Nat.mod_eq_of_lt h1
   simp [e,h1]
theorem CRepV.replicate {w:World} {h:Hw} {c:List CV} {us:List Value} (hc:CRepV w h c us):∀n:Nat,CRepV w h (List.replicate n c).flatten (List.replicate n us).flatten
 |0=>by simp [CRepV]
 |n+1=>by simp only [List.replicate_succ,List.flatten_cons];exact hc.append (hc.replicate n)
theorem QdO {α:Type} {ops:List Oper} {e:TypeId} {s:Nat} {m1 m2:M α} {f:α→List Loc→Option β} (h:(Qfo ops e s m1 m2).exec call σ acc f=some r):
  ∃acc',m1.exec call σ acc' f=some r∨m2.exec call σ acc' f=some r:=by
 simp only [Qfo,M.exec] at h
 obtain ⟨_,h⟩:=Qaf h
 split at h
 ·exact ⟨_, .inl h⟩
 ·exact ⟨_, .inr h⟩
theorem Qxf (l:List (List CV)) (i:Nat):Qh5 l i []=l:=by simp [Qh5]
theorem Sim.overRow (S:Sim P B W0 d σ a w G) {d' s b i:Nat} {e:TypeId} {l new:List (List CV)} {news:List Value} {ad:Addr} (hb:G.blk d' s=some b) (hbx:box? σ.mem d' s=some [.row e l])
  (hnew:∀c∈new,c.length=P.cellsOf e) (hle:i+new.length≤l.length) (hrep:CRepV w G.hw new.flatten news) (had:new≠ []→ad=Qas b (i*P.cellsOf e)) (hme:e≠mapE):
  ∃w',(storeCells ad news).run P w= .ok () w'∧Sim P B W0 d {σ with mem:=QaI σ.mem d' s [.row e (Qh5 l i new)]} a w' G∧Keeps B d w w' G G:=by
 have RR:=S.mem.row hb hbx hme
 by_cases hn:new= []
 ·subst hn
  have:news= []:=by simp only [List.flatten_nil,CRepV] at hrep;exact hrep
  subst this
  have hin:=Qis hbx
  refine ⟨w,rfl,⟨S.mem.congr fun d1 s1=> ?_,by rw [Qcf];exact S.depth,S.fr,S.cfg,S.marks⟩,Keeps.refl _ _ _ _⟩
  rw [Qa4,Qxf]
  split
  ·rename_i q;rw [q.1,q.2.1];exact hbx.symm
  ·rfl
 ·obtain ⟨f1,f2,f3⟩:=Qsm RR.es hnew hle
  obtain ⟨w',hr,S',K'⟩:=S.storeRow hb hbx (Qvg f1 f2) f3 hrep hme
  exact ⟨w',by rw [had hn];exact hr,S',K'⟩
theorem QsB (S:Sim P B W0 d σ a w G) {c:Call} (ho:o.op= .call c) (hb:c.callee= .builtin .append) {x y:Operand} {t u:TypeId} (hargs:c.args= #[x,y]) (htypes:c.argTypes= #[t,u]) {dst:Nat} (_hd:o.dst=some dst)
  {sv zv:AV} (hs:ARep P w G (QcF d x) sv (a.eval x)) {pz:Place} (hz:ARep P w G pz zv (a.eval y)) {dflt:M (List W)} {k:List W→List Loc→Option β}
  (h:(Qrt P d ops o t u x sv zv dflt).exec call σ acc k=some r):(∃acc',dflt.exec call σ acc' k=some r)∨OpDone P B W0 d o σ a w G k r:=by
 have resolve_eq:execOp a.eval o=invoke (.builtin .append c.argTypes o.type (c.args.map fun| .const _=>true|_=>false)) (c.args.map a.eval):=by
  unfold execOp
  rw [ho]
  simp only [resolve,hb]
  rfl
 have hrun:∀{v':Value} {w':World},(Builtin.append_ #[t,u] o.type #[a.eval x,a.eval y]).run P w= .ok v' w'→(execOp a.eval o).run P w= .ok (.value v') w':=by
  intro v' w' hr
  rw [resolve_eq,hargs,htypes]
  simp [invoke,builtin,hr]
 unfold Qrt at h
 split at h
 ·rename_i e e2 ht hu2
  have hns:P.underlying u=some .string→False:=by rw [hu2];simp
  have hu:P.underlying u=some .string∨∃e',P.underlying u=some (.slice e'):= .inr ⟨_,hu2⟩
  split at h
  ·
   rename_i e' d' s' off len cap
   right
   simp only [M.exec] at h
   obtain ⟨h1,h⟩:=Qaf h
   simp only [Bool.and_eq_true,beq_iff_eq,decide_eq_true_eq] at h1
   obtain ⟨⟨⟨rfl,hpos⟩,hby⟩,hz0⟩:=h1
   rw [M.exec_bind] at h
   obtain ⟨new,acc1,_,h,_,hsrc⟩:=QlC (size:=P.cellsOf e') S hz h hns
   unfold Qyq at h
   obtain ⟨acc2,h|h⟩:=QdO h
   ·simp only [M.exec] at h
    obtain ⟨h1,g1⟩:=Qaf h
    simp only [Bool.and_eq_true,beq_iff_eq] at h1
    obtain ⟨⟨rfl,_⟩,rfl⟩:=h1
    rw [M.exec_bind] at g1
    obtain ⟨l,g2,hbx,hme⟩:=Qew g1
    simp only [M.exec] at g2
    obtain ⟨h1,g3⟩:=Qaf g2
    obtain ⟨h2,g4⟩:=Qaf g3
    obtain ⟨h3,g5⟩:=Qaf g4
    obtain ⟨h4,g6⟩:=Qaf g5
    have h1:len=l.length:=by simpa using h1
    have h2:new≠ []:=by simpa using h2
    have h3:∀c∈new,c.length=P.cellsOf e':=by simpa using h3
    have h4:(l.length+new.length)*P.bytesOf e'≤140737488355328:=by rw [←h1];simpa [room] using h4
    obtain ⟨news,hsrc,hrep⟩:=hsrc h3
    obtain ⟨v',w',G',hr,S',K',hv'⟩:=Qwb (ty:=o.type) S hs hbx h1 h2 ht hu hz0 hby h3 hsrc.src hrep h4 hme
    exact OpDone.value g6 (hrun hr) (S'.put o fun t' _=>hv' _) K'
   ·rw [M.exec_bind] at h
    obtain ⟨l,h,hbx,hme⟩:=Qew h
    simp only [M.exec] at h
    obtain ⟨h1,h⟩:=Qaf h
    obtain ⟨h3,h⟩:=Qaf h
    simp only [Bool.and_eq_true,decide_eq_true_eq] at h1
    have h3:∀c∈new,c.length=P.cellsOf e':=by simpa using h3
    obtain ⟨news,hsrc,hrep⟩:=hsrc h3
    obtain ⟨i,z,hi,hiz,hisz,_⟩:=QlR hz0
    simp only [ARep] at hs
    obtain ⟨b,ad,c',q,q1,q2,q3,q4,q5,q6,q7⟩:=hs
    obtain ⟨w',hst,S',K'⟩:=S.overRow (ad:=ad.add (len*P.cellsOf e')) (i:=off+len) q1 hbx h3 h1.1 hrep (fun hne=>by
     have:=List.length_pos_iff.2 hne
     rw [q5 (by omega),Qbi,Nat.add_mul]) hme
    have hr:=Qkf (ty:=o.type) (sLen:=len) (sCap:=c') ht hu hi (by rw [hisz];exact hsrc.src) (by omega) (w':=w') (by rw [hisz];exact hst)
    refine OpDone.value h (hrun (by rw [q2];exact hr)) (S'.put o fun t' _=> ?_) K'
    simp only [ARep]
    exact ⟨b,ad,c',q,q1,rfl,by omega,q4,q5,K'.keep.elem b q q6,q7⟩
  ·
   obtain ⟨acc2,h|h⟩:=QdO h
   ·right
    rw [M.exec_bind] at h
    obtain ⟨new,acc1,_,h,_,hsrc⟩:=QlC (size:=P.cellsOf e) S hz h hns
    rw [M.exec_bind] at h
    have hs0:=hs
    obtain ⟨sv',h,hs⟩:=QoG hs h
    unfold Qyz at h
    split at h
    ·rename_i own n e' l
     simp only [M.exec] at h
     obtain ⟨h1,g1⟩:=Qaf h
     obtain ⟨h3,g2⟩:=Qaf g1
     obtain ⟨h4,g3⟩:=Qaf g2
     clear h g1 g2
     simp only [Bool.and_eq_true,beq_iff_eq,decide_eq_true_eq,bne_iff_ne,ne_eq] at h1
     obtain ⟨⟨⟨⟨⟨⟨hme,rfl⟩,hpos⟩,hby⟩,hz0⟩,hno⟩,hl0⟩:=h1
     have hl0:l= []:=by simpa using hl0
     subst hl0
     have h3:∀c∈new,c.length=P.cellsOf e':=by simpa using h3
     have h4:new.length*P.bytesOf e'≤140737488355328:=by simpa [room] using h4
     obtain ⟨news,hsrc,hrep⟩:=hsrc h3
     obtain ⟨i,z,hi,hiz,hisz,hiby,hzs,hz1⟩:=QlR hz0
     have hlen63:new.length≤140737488355328:=by
      have:new.length*1≤new.length*P.bytesOf e':=Nat.mul_le_mul_left _ hby
      omega
     obtain ⟨base,hbase⟩:∃base:Option Addr,a.eval x= .slice base 0 0:=by
      simp only [ARep] at hs
      rcases hs with ⟨_,_,q⟩|⟨q0,b,off,cap,⟨ad,q,_⟩,_,_,_,_,q7⟩
      ·exact ⟨none,q⟩
      ·rcases q7 with ⟨_,q7⟩|⟨q7,_⟩
       ·exact ⟨some ad,by rw [q,q7];rfl⟩
       ·rw [q0,q7] at hno;simp at hno
     have S1:Sim P B W0 d (Qau σ (QqT x sv)) a w G∧(Qau σ (QqT x sv)).mem=σ.mem:=by
      cases x with
      |tmp j=>
       simp only [QqT,Qau,W.apply]
       exact ⟨S.weaken (i:=j) (by have:=hs0.copy (q:= .tmp d j);simpa [Act.eval] using this),trivial⟩
      |_=>exact ⟨S,rfl⟩
     obtain ⟨S1,hm1⟩:=S1
     by_cases hne:new= []
     ·subst hne
      simp only [List.isEmpty_nil,cond_true] at g3
      have hn0:news= []:=by simp only [List.flatten_nil,CRepV] at hrep;exact hrep
      subst hn0
      have hr:=Qhd (ty:=o.type) (w:=w) (base:=base) (sLen:=0) (sCap:=0) ht hu hi (by rw [hisz];exact hsrc.src) (Nat.le_refl _)
      have hv':∀t',o.dst=some t'→ARep P w G (.tmp d t') (.val (.list n [])) (.slice base 0 0):=fun t' _=>by
       have:=hs.list
       rw [hbase] at this
       simpa only [ARep] using this
      exact OpDone.value g3 (hrun (by rw [hbase];exact hr)) (w':=w) (G':=G) (by rw [Qgo];exact S1.put o hv') (Keeps.refl _ _ _ _)
     ·have hpn:0<new.length:=List.length_pos_iff.2 hne
      have hemp:new.isEmpty=false:=by cases new with|nil=>exact (hne rfl).elim|cons _ _=>rfl
      rw [hemp] at g3
      simp only [cond_false] at g3
      obtain ⟨hf,g4⟩:=Qaf g3
      simp only [Bool.and_eq_true,Option.isNone_iff_eq_none,decide_eq_true_eq] at hf
      have hr:=QhT (ty:=o.type) (w:=w) (base:=base) (sLen:=0) (sCap:=0) (olds:= []) ht hu hi hiz (by rw [hisz];exact hsrc.src) (by cases base<;>simp [Builtin.firstCells,loadCells,loadCellsFrom]) (by omega) (by omega) (growslice_fits (by omega) (by rw [hiby,Nat.zero_add];exact h4))
      have hC:=grownCap_ge w (0+new.length) 0 e'
      generalize grownCap w (0+new.length) 0 e'=C at*
      have S2:=S1.sameHeap (w':=w.drew) rfl (Below.refl B w).drew
      have K2:=(Keeps.sameHeap (d:=d) (G:=G) (w:=w) (w':=w.drew) rfl (Below.refl B w).drew)
      obtain ⟨S3,K3⟩:=S2.newBox0 (s:=target ops (o.dst.getD 0)) (T:=e') (by rw [hm1];exact hf.1) (by rw [hm1];exact hf.2) (QoX (e:=e') h3 (CRepV.keep K2.keep _ hrep) (QmC (n:=C-(0+new.length)) hz1) d _) (QeB hme)
      have harr:(news++(Builtin.zeroCells z.cells (C-(0+new.length))).toList).toArray=([]++news).toArray++Builtin.zeroCells z.cells (C-(0+new.length)):=by apply Array.ext';simp
      rw [harr] at S3 K3
      have hv':∀t',o.dst=some t'→ARep P (w.drew.alloc (.cells (([]++news).toArray++Builtin.zeroCells z.cells (C-(0+new.length))) e')) (G.put d (target ops (o.dst.getD 0)) w.heap.size) (.tmp d t')
        (.rsl e' d (target ops (o.dst.getD 0)) 0 new.length new.length) (.slice (some ⟨w.heap.size,0,none⟩) (0+new.length) C):=fun t' _=>by
       simp only [ARep]
       refine ⟨w.heap.size,_,C,_,by simp [Gh.put],by rw [Nat.zero_add],Nat.le_refl _,by omega,fun _=>by simp,Ql0 w.drew _ _ _, ?_⟩
       have h1:=hsrc.size
       simp only [Array.size_append,List.size_toArray,List.nil_append,QhS,hzs,h1]
       rw [←Nat.add_mul]
       exact Nat.mul_le_mul_right _ (by omega)
      exact OpDone.value g4 (hrun (by rw [hbase];exact hr)) (by rw [Qgo];exact S3.put o hv') (K2.trans K3)
    ·simp [M.exec] at h
   ·exact .inl ⟨acc2,h⟩
 ·exact .inl ⟨_,h⟩
theorem Qzo (S:Sim P B W0 d σ a w G) {c:Call} (ho:o.op= .call c) (hb:c.callee= .builtin .copy) {k:List W→List Loc→Option β}
  (h:(opM P d ops o).exec call σ acc k=some r):OpDone P B W0 d o σ a w G k r:=by
 unfold opM at h
 rw [ho] at h
 simp only [hb] at h
 unfold Qjw at h
 have resolve_eq:execOp a.eval o=invoke (.builtin .copy c.argTypes o.type (c.args.map fun| .const _=>true|_=>false)) (c.args.map a.eval):=by
  unfold execOp
  rw [ho]
  simp only [resolve,hb]
  rfl
 split at h
 ·rename_i hh _ _;cases hh
 ·rename_i hh _ _;cases hh
 ·rename_i x y t u _ hargs htypes
  rw [M.exec_bind] at h
  obtain ⟨sv,acc1,h,hs⟩:=QaC S _ h
  rw [M.exec_bind] at h
  obtain ⟨zv,acc2,h,hz⟩:=QaC S _ h
  have ha:c.args= #[x,y]:=by apply Array.ext';simpa using hargs
  have htt:c.argTypes= #[t,u]:=by apply Array.ext';simpa using htypes
  split at h
  ·rename_i e e2 ht hu2
   unfold Qyo at h
   split at h
   ·rename_i e' d' s' off len cap _
    simp only [M.exec] at h
    obtain ⟨h0,h⟩:=Qaf h
    simp only [Bool.and_eq_true,beq_iff_eq,bne_iff_ne,ne_eq] at h0
    obtain ⟨rfl,hpos⟩:=h0
    rw [M.exec_bind] at h
    obtain ⟨new,acc3,_,h,_,hsrc⟩:=QlC (size:=P.cellsOf e) S hz h (by rw [hu2];simp)
    rw [M.exec_bind] at h
    obtain ⟨l,h,hbx,hme⟩:=Qew h
    simp only [M.exec] at h
    obtain ⟨h1,h⟩:=Qaf h
    obtain ⟨h3,h⟩:=Qaf h
    have h1:off+len≤l.length:=by simpa using h1
    have h3:∀c∈new,c.length=P.cellsOf e:=by simpa using h3
    obtain ⟨news,hsrc,hrep⟩:=hsrc h3
    simp only [ARep] at hs
    obtain ⟨b,ad,c',q,q1,q2,q3,q4,q5,q6,q7⟩:=hs
    have hn3:∀c∈new.take (min len new.length),c.length=P.cellsOf e:=fun c hc=>h3 c (List.mem_of_mem_take hc)
    have hrep2:CRepV w G.hw (new.take (min len new.length)).flatten (news.take (min len new.length*P.cellsOf e)):=by
     have key:∀{cs:List CV} {us:List Value} (n:Nat),CRepV w G.hw cs us→CRepV w G.hw (cs.take n) (us.take n):=by
      intro cs
      induction cs with
      |nil=>intro us n h;simp only [CRepV] at h;subst h;simp [CRepV]
      |cons x cs ih=>
       intro us n h
       simp only [CRepV] at h
       obtain ⟨v,s,rfl,r1,r2,r3⟩:=h
       cases n with
       |zero=>simp [CRepV]
       |succ n=>simp only [List.take_succ_cons,CRepV];exact ⟨v,_,rfl,r1,r2,ih n r3⟩
     have e1:new.flatten=(new.take (min len new.length)).flatten++(new.drop (min len new.length)).flatten:=by rw [←List.flatten_append,List.take_append_drop]
     have l1:(new.take (min len new.length)).flatten.length=min len new.length*P.cellsOf e:=by rw [Qc0 hn3];congr 1;simp
     have:=key (min len new.length*P.cellsOf e) hrep
     rw [e1,List.take_left' l1] at this
     exact this
    obtain ⟨w',hst,S',K'⟩:=S.overRow (ad:=ad) (i:=off) q1 hbx hn3 (by simp;omega) hrep2 (fun hne=>by
     have:=List.length_pos_iff.2 hne
     simp at this
     exact q5 (by omega)) hme
    refine OpDone.value h (x:= .int .i64 (min len new.length:Nat)) (w':=w') ?_ (S'.put o fun t' _=>by simp only [ARep,CRep]) K'
    have e1:=hsrc.len w
    have e2:=hsrc.first (min new.length len) (by omega) w rfl
    rw [resolve_eq,ha,htt]
    have hmin:min len new.length=min new.length len:=Nat.min_comm _ _
    rw [hmin] at hst⊢
    have hr:(Builtin.copy_ #[t,u] o.type #[a.eval x,a.eval y]).run P w= .ok (.int .i64 (min new.length len:Nat)) w':=by
     simp [Builtin.copy_,run_underlying ht,q2,e1,Qc1 hpos,e2,hst,goInt]
    simp [invoke,builtin,hr]
   ·simp [M.exec] at h
  ·simp [M.exec] at h
 ·rename_i hh _ _;cases hh
 ·rename_i hh _ _;cases hh
 ·rename_i hh _ _;cases hh
 ·simp [M.exec] at h
theorem QxJ (S:Sim P B W0 d σ a w G) {c:Call} (ho:o.op= .call c) (hb:c.callee= .builtin .clear) {k:List W→List Loc→Option β}
  (h:(opM P d ops o).exec call σ acc k=some r):OpDone P B W0 d o σ a w G k r:=by
 unfold opM at h
 rw [ho] at h
 simp only [hb] at h
 unfold Qjw at h
 have resolve_eq:execOp a.eval o=invoke (.builtin .clear c.argTypes o.type (c.args.map fun| .const _=>true|_=>false)) (c.args.map a.eval):=by
  unfold execOp
  rw [ho]
  simp only [resolve,hb]
  rfl
 split at h
 ·rename_i hh _ _;cases hh
 ·rename_i hh _ _;cases hh
 ·rename_i hh _ _;cases hh
 ·rename_i x t _ hargs htypes
  simp only [M.exec] at h
  obtain ⟨hd,h⟩:=Qaf h
  have hd:o.dst=none:=by simpa using hd
  rw [M.exec_bind] at h
  obtain ⟨sv,acc1,h,hs⟩:=QaC S _ h
  have ha:c.args= #[x]:=by apply Array.ext';simpa using hargs
  have htt:c.argTypes= #[t]:=by apply Array.ext';simpa using htypes
  split at h
  ·rename_i e ht
   unfold QwD at h
   split at h
   ·rename_i e' d' s' off len cap
    simp only [M.exec] at h
    obtain ⟨h0,h⟩:=Qaf h
    simp only [Bool.and_eq_true,beq_iff_eq,bne_iff_ne,ne_eq] at h0
    obtain ⟨rfl,hpos⟩:=h0
    obtain ⟨z,hz,h⟩:=Qag h
    simp only [Option.bind_eq_some_iff] at hz
    obtain ⟨zc,hz0,hzcv⟩:=hz
    obtain ⟨zv,hzr,hzc,hzs⟩:=Qfi (w:=w) (G:=G) hz0
    obtain ⟨hzrep,_,hzl⟩:=Qdy (hzc fun _=> .none) hzcv
    have hzlen:z.length=P.cellsOf e:=by rw [←hzrep.length];simpa using hzs
    have hpz:0<zv.cells.size:=by rw [hzs];omega
    rw [M.exec_bind] at h
    obtain ⟨l,h,hbx,hme⟩:=Qew h
    simp only [M.exec] at h
    obtain ⟨h1,h⟩:=Qaf h
    have h1:off+len≤l.length:=by simpa using h1
    simp only [ARep] at hs
    obtain ⟨b,ad,c',q,q1,q2,q3,q4,q5,q6,q7⟩:=hs
    obtain ⟨w',hst,S',K'⟩:=S.overRow (ad:=ad) (i:=off) (news:=(List.replicate len zv.cells.toList).flatten) q1 hbx (fun c hc=>by rw [List.eq_of_mem_replicate hc,hzlen]) (by simp;omega) (hzrep.replicate len) (fun hne=>by
     have:=List.length_pos_iff.2 hne
     simp at this
     exact q5 (by omega)) hme
    have hzc0:(Builtin.zeroCells zv.cells len).toList=(List.replicate len zv.cells.toList).flatten:=QlT zv.cells hpz len
    have hr:(Builtin.clear_ #[t] o.type #[a.eval x]).run P w= .ok (.tuple #[]) w':=by
     by_cases hl:len=0
     ·subst hl
      have:w'=w:=by
       simp only [List.replicate_zero,List.flatten_nil] at hst
       have h2:(storeCells ad []).run P w= .ok () w:=rfl
       rw [h2] at hst
       simp at hst
       exact hst.symm
      rw [this]
      simp [Builtin.clear_,run_underlying ht,q2]
     ·obtain ⟨m,rfl⟩:∃m,len=m+1:=⟨len-1,by omega⟩
      simp [Builtin.clear_,run_underlying ht,q2,hzr,hzc0,hst]
    refine OpDone.value h (x:= .tuple #[]) (w':=w') ?_ (by rw [hd];exact S') K'
    rw [resolve_eq,ha,htt]
    simp [invoke,builtin,hr]
   ·simp [M.exec] at h
  ·simp [M.exec] at h
 ·rename_i hh _ _;cases hh
 ·rename_i hh _ _;cases hh
 ·simp [M.exec] at h
theorem Qzk {own n:Bool} {e:TypeId} {l new:List (List CV)} {ops:List Oper} {y:Operand} {f:AV→List Loc→Option β}
  (h:(match Qv5 ops y&& !own with
   |true=>Qfo ops e 1000000 (.chk (!new.isEmpty) (.ret (.lst true false e (l++new)))) (.ret (Qhm own n e l new))
   |false=> .ret (Qhm own n e l new):M AV).exec call σ acc f=some r):
  ∃res acc',f res acc'=some r∧∀{w':World} {G':Gh} {p:Place} {v:Value},AppRep P w' G' p own n e l new v→ARep P w' G' p res v:=by
 have plain:∀{acc':List Loc},f (Qhm own n e l new) acc'=some r→∃res acc',f res acc'=some r∧∀{w':World} {G':Gh} {p:Place} {v:Value},AppRep P w' G' p own n e l new v→ARep P w' G' p res v:=fun h=>⟨_,_,h,fun q=>q.1⟩
 split at h
 ·rename_i hb
  simp only [Bool.and_eq_true,Bool.not_eq_true'] at hb
  obtain ⟨acc2,h|h⟩:=QdO h
  ·simp only [M.exec] at h
   obtain ⟨h1,h⟩:=Qaf h
   exact ⟨_,_,h,fun q=>q.2 hb.2 (by intro e;rw [e] at h1;cases h1)⟩
  ·exact plain h
 ·exact plain h
theorem Qxh (S:Sim P B W0 d σ a w G) {c:Call} (ho:o.op= .call c) (hb:c.callee= .builtin .append) {k:List W→List Loc→Option β}
  (h:(opM P d ops o).exec call σ acc k=some r):OpDone P B W0 d o σ a w G k r:=by
 unfold opM at h
 rw [ho] at h
 simp only [hb] at h
 unfold Qjw at h
 have resolve_eq:execOp a.eval o=invoke (.builtin .append c.argTypes o.type (c.args.map fun| .const _=>true|_=>false)) (c.args.map a.eval):=by
  unfold execOp
  rw [ho]
  simp only [resolve,hb]
  rfl
 split at h
 ·rename_i hh _ _;cases hh
 ·rename_i x y t u _ hargs htypes
  simp only [M.exec] at h
  obtain ⟨hd,h⟩:=Qaf h
  obtain ⟨dst,hd⟩:=Option.isSome_iff_exists.1 hd
  rw [M.exec_bind] at h
  obtain ⟨sv,acc1,h,hs⟩:=QfN S _ _ h
  rw [M.exec_bind] at h
  obtain ⟨zv,acc2,h,hz⟩:=QaC S _ h
  have ha:c.args= #[x,y]:=by apply Array.ext';simpa using hargs
  have htt:c.argTypes= #[t,u]:=by apply Array.ext';simpa using htypes
  rcases QsB S ho hb ha htt hd hs hz h with ⟨acc2,h⟩|h
  case inr=>exact h
  rw [M.exec_bind] at h
  unfold Qvc at h
  split at h
  ·rename_i e ht
   rw [M.exec_bind] at h
   obtain ⟨new,h,hu,hsrc⟩:=Qv3 (size:=P.cellsOf e) hz h
   rw [M.exec_bind] at h
   have hs0:=hs
   obtain ⟨sv',h,hs⟩:=QoG hs h
   cases sv' with
   |lst own n e' l=>
    simp only [M.exec] at h
    obtain ⟨h1,h⟩:=Qaf h
    obtain ⟨h2,h⟩:=Qaf h
    obtain ⟨h3,h⟩:=Qaf h
    simp only [Bool.and_eq_true,beq_iff_eq,decide_eq_true_eq] at h1
    obtain ⟨⟨⟨rfl,_⟩,hby⟩,hz0⟩:=h1
    have hnew:∀c∈new,c.length=P.cellsOf e':=by simpa using h2
    obtain ⟨res,acc3,h,hres⟩:=Qzk (own:=own) (n:=n) (e:=e') (l:=l) h
    have hroom:(l.length+new.length)*P.bytesOf e'≤140737488355328:=by simpa [room] using h3
    obtain ⟨news,hsrc,hrep⟩:=hsrc hnew
    have fin:∀{σ1:St},Sim P B W0 d σ1 a w G→(∀j,Place.tmp d j=QcF d x→(nthD .any σ1.tmps j).owns=false)→
      ∃v' w' G',(execOp a.eval o).run P w= .ok (.value v') w'∧Sim P B W0 d (Qau σ1 (Am.put o res)) (a.put o.dst v') w' G'∧Keeps B d w w' G G':=by
     intro σ1 S1 hcp
     obtain ⟨v',w',G',hr,S',K,hv'⟩:=QtF (ty:=o.type) S1 dst hs (by intro d' s o';cases x<;>simp [QcF]) (by intro d' i hlt;cases x<;>simp [QcF];intro;omega) hcp ht hu hz0 hby hnew hsrc hrep hroom
     refine ⟨v',w',G', ?_,S'.put o fun t' ht'=> ?_,K⟩
     ·rw [resolve_eq,ha,htt]
      simp [invoke,builtin,hr]
     ·rw [hd] at ht';cases ht';exact hres hv'
    by_cases hxt:∃i,x= .tmp i
    ·obtain ⟨i,rfl⟩:=hxt
     simp only [M.exec] at h
     have hcopy:=hs0.copy (q:= .tmp d i)
     have S1:=S.weaken (i:=i) (by simpa [Act.eval] using hcopy)
     obtain ⟨v',w',G',hr,S',K⟩:=fin S1 (fun j hj=>by
      simp only [QcF,Place.tmp.injEq,true_and] at hj
      subst hj
      simp only [QaL]
      split
      ·exact QrV _
      ·rename_i hlt
       have:nthD AV.any σ.tmps j= .any:=by rw [Qar,List.getElem?_eq_none (by simp at hlt;exact hlt)];rfl
       rw [this];rfl)
     exact OpDone.value h hr (by simpa [Qau,W.apply] using S') K
    ·have h:k (Am.put o res) acc3=some r:=by
      cases x with
      |tmp i=>exact absurd ⟨i,rfl⟩ hxt
      |_=>exact h
     obtain ⟨v',w',G',hr,S',K⟩:=fin S (fun j hj=>by
      cases x with
      |tmp i=>exact absurd ⟨i,rfl⟩ hxt
      |_=>simp [QcF] at hj)
     exact OpDone.value h hr S' K
   |_=>simp [M.exec] at h
  ·simp [M.exec] at h
 ·rename_i hh _ _;cases hh
 ·rename_i hh _ _;cases hh
 ·rename_i hh _ _;cases hh
 ·rename_i hh _ _;cases hh
 ·simp [M.exec] at h
end Go.Am
namespace Go.Am
open Go.RowKit
variable {P:Program} {B:Nat} {W0:Base} {d:Nat} {σ:St} {a:Act} {w:World} {G:Gh} {β:Type} {call:FuncId→List CV→Option CV}
 {acc:List Loc} {r:β} {o:Oper} {ops:List Oper}
def Qdl:(us:List Value)→(off:Nat)→List Value→List Value
 |us,_, []=>us
 |us,off,v::r=>Qdl (us.set off v) (off+1) r
theorem QlW (off:Nat):∀(xs:List Value) (k:Nat) (cells:Array Value),
  (xs.zipIdx k).foldl (fun cs (p:Value×Nat)=>cs.setIfInBounds (off+p.2) p.1) cells=(Qdl cells.toList (off+k) xs).toArray
 | [],k,cells=>by simp [Qdl]
 |x::xs,k,cells=>by
  simp only [List.zipIdx_cons,List.foldl_cons,Qdl]
  rw [QlW off xs (k+1)]
  simp [Nat.add_assoc]
def CellsE (P:Program) (w:World) (G:Gh) (cs:List AV) (us:List Value):Prop:=∃pl,Cells P w G pl cs us
theorem CellsE.set {cs:List AV} {us:List Value} (h:CellsE P w G cs us) {i:Nat} {v:AV} {u:Value} {p:Place} (h1:u.oneCell'=true) (hv:ARep P w G p v u):CellsE P w G (setN cs i v) (us.set i u):=by
 obtain ⟨pl,h⟩:=h
 refine ⟨fun j=>if j=i then p else pl j,by simp [QaK,h.len],fun j hj=> ?_⟩
 rw [QaK] at hj
 obtain ⟨z,q1,q2,q3⟩:=h.rep j hj
 by_cases e:j=i
 ·subst e
  refine ⟨u, ?_,h1, ?_⟩
  ·rw [List.getElem?_set]
   simp [h.len,hj]
  ·have e2:nthD .any (setN cs j v) j=v:=by rw [QaL,if_pos ⟨rfl,hj⟩]
   rw [e2];simpa using hv
 ·refine ⟨z, ?_,q2, ?_⟩
  ·rw [List.getElem?_set_ne (Ne.symm e)];exact q1
  ·have e2:nthD .any (setN cs i v) j=nthD .any cs j:=by rw [QaL,if_neg (fun q=>e q.1)]
   rw [e2];simpa [e] using q3
theorem CellsE.over:∀{vs:List AV} {xs:List Value} {cs:List AV} {us:List Value} {off:Nat},CellsE P w G cs us→CellsE P w G vs xs→CellsE P w G (QcI cs off vs) (Qdl us off xs)
 | [],xs,cs,us,off,h,hv=>by
  obtain ⟨pl,hv⟩:=hv
  have:xs= []:=List.eq_nil_of_length_eq_zero (by have:=hv.len;simpa using this)
  subst this
  simpa [QcI,Qdl] using h
 |v::vs,xs,cs,us,off,h,hv=>by
  obtain ⟨pl,hv⟩:=hv
  obtain ⟨u,r',rfl,h1,h2,h3⟩:=hv.uncons
  simp only [QcI,Qdl]
  exact (h.set h1 h2).over ⟨_,h3⟩
theorem Qj3 (S:Sim P B W0 d σ a w G) {t:TypeId} {place:Nat→Option (Nat×Nat)} (hplace:∀i q,partAt P t i=some q→place i=some (q.1,P.cellsOf q.2)):
  ∀{parts:List (Nat×Operand)} {cs:List AV} {cells:Array Value} {acc:List Loc} {f:List AV→List Loc→Option β},CellsE P w G cs cells.toList→(QmX P t cs parts).exec call σ acc f=some r→
   ∃cs' us' acc',f cs' acc'=some r∧CellsE P w G cs' us'∧Instr.fill place cells (parts.map fun p=>(p.1,a.eval p.2))=some us'.toArray
 | [],cs,cells,acc,f,hc,h=>⟨cs,cells.toList,acc,by simpa [QmX,M.exec] using h,hc,by simp [Instr.fill]⟩
 |(i,x)::parts,cs,cells,acc,f,hc,h=>by
  simp only [QmX,M.exec] at h
  obtain ⟨q,hq,h⟩:=Qag h
  rw [M.exec_bind] at h
  obtain ⟨v,acc1,h,hv⟩:=QfN S _ _ h
  rw [M.exec_bind] at h
  obtain ⟨vs,h,hl,hvs,_,_⟩:=Qeh hv h
  simp only [M.exec] at h
  obtain ⟨hroom,h⟩:=Qaf h
  have hroom:q.1+P.cellsOf q.2≤cs.length:=by simpa using hroom
  have hclen:cells.size=cs.length:=by obtain ⟨pl,hc'⟩:=hc;have:=hc'.len;simpa using this
  have hvlen:(a.eval x).cells.size=P.cellsOf q.2:=by have:=hvs.len;simpa [hl] using this
  have hover:CellsE P w G (QcI cs q.1 vs) (Qdl cells.toList q.1 (a.eval x).cells.toList):=hc.over ⟨_,hvs⟩
  have hfold:=QlW q.1 (a.eval x).cells.toList 0 cells
  obtain ⟨cs',us',acc',h1,h2,h3⟩:=Qj3 S hplace (cells:=(Qdl cells.toList q.1 (a.eval x).cells.toList).toArray) (by simpa using hover) h
  refine ⟨cs',us',acc',h1,h2, ?_⟩
  simp only [List.map_cons,Instr.fill,hplace i q hq]
  rw [if_neg (by simp [hvlen];omega)]
  rw [←h3]
  congr 1
  rw [←Array.foldl_toList,Array.toList_zipIdx]
  rw [Nat.add_zero] at hfold
  exact hfold
theorem Qp4 {fs:Array Field} {w:World} (h:fs.toList.all (fun f=>(P.underlying f.type).isSome)=true):
  (fs.mapM (m:=Sem) fun f=>do pure (f.offset,←sizeOf f.type)).run P w= .ok (fs.map fun f=>(f.offset,P.cellsOf f.type)) w:=by
 have key:∀(l:List Field) (w:World),l.all (fun f=>(P.underlying f.type).isSome)=true→(l.mapM (m:=Sem) fun f=>do pure (f.offset,←sizeOf f.type)).run P w= .ok (l.map fun f=>(f.offset,P.cellsOf f.type)) w:=by
  intro l
  induction l with
  |nil=>intro w _;simp
  |cons f l ih=>
   intro w hl
   simp only [List.all_cons,Bool.and_eq_true] at hl
   simp only [List.mapM_cons,Sem.run_bind,Qbz hl.1,Sem.run_pure,Result.andThen_ok,ih w hl.2,List.map_cons]
 have h2:=key fs.toList w h
 rw [←Array.toList_mapM] at h2
 simp only [Sem.run_map] at h2
 generalize (fs.mapM (m:=Sem) fun f=>do pure (f.offset,←sizeOf f.type)).run P w=R at h2⊢
 cases R with
 |ok x w'=>
  simp only [Result.andThen_ok,Result.ok.injEq] at h2
  obtain ⟨h3,rfl⟩:=h2
  congr 1
  apply Array.ext'
  simpa using h3
 |halt x w'=>simp [Result.andThen] at h2
theorem Qr5 {pl:Nat→Place} {cs:List AV} {us:List Value} {ops:List Oper} {t:TypeId} (hc:Cells P w G pl cs us) {k:List W→List Loc→Option β}
  (h:(match Qpg ops o with
   |true=>Qfo ops t 1000000 (.ret (put o (.agg (cs.map AV.copy)))) (.ret (put o (QfG cs)))
   |false=> .ret (put o (QfG cs)):M (List W)).exec call σ acc k=some r):∃v acc',k (put o v) acc'=some r∧∀p,ARep P w G p v (.agg us.toArray):=by
 have plain:∀{acc':List Loc},k (put o (QfG cs)) acc'=some r→∃v acc',k (put o v) acc'=some r∧∀p,ARep P w G p v (.agg us.toArray):=fun h=>⟨_,_,h,fun p=>QcZ hc p⟩
 split at h
 ·obtain ⟨acc2,h|h⟩:=QdO h
  ·refine ⟨_,_,h,fun p=> ?_⟩
   simp only [ARep]
   exact ⟨us,rfl,hc.toL.1,hc.toL.2⟩
  ·exact plain h
 ·exact plain h
theorem Qxy (S:Sim P B W0 d σ a w G) {t:TypeId} {parts:Array (Nat×Operand)} (ho:o.op= .build t parts) {k:List W→List Loc→Option β}
  (h:(opM P d ops o).exec call σ acc k=some r):OpDone P B W0 d o σ a w G k r:=by
 unfold opM at h
 rw [ho] at h
 simp only [M.exec] at h
 obtain ⟨hk,h⟩:=Qaf h
 obtain ⟨z,hz,h⟩:=Qag h
 rw [M.exec_bind] at h
 obtain ⟨zv,hzr,hzc,_⟩:=Qfi (w:=w) (G:=G) hz
 unfold QpV at hk
 split at hk
 ·rename_i fs ht
  obtain ⟨cs',us',acc',h,hc,hfill⟩:=Qj3 S (place:=fun i=>(fs.map fun f=>(f.offset,P.cellsOf f.type))[i]?) (fun i q hq=>by
   simp only [partAt,ht,Option.map_eq_some_iff] at hq
   obtain ⟨fd,hfd,rfl⟩:=hq
   simp [hfd]) ⟨fun _=> .none,hzc _⟩ h
  obtain ⟨pl,hc⟩:=hc
  obtain ⟨v',acc'',h,hv'⟩:=Qr5 hc h
  refine OpDone.pure (x:= .agg us'.toArray) S h ?_ fun t' _=>hv' _
  have hm:=Qp4 (P:=P) (w:=w) hk
  have e1:(parts.map fun p=>(p.1,a.eval p.2)).toList=parts.toList.map fun p=>(p.1,a.eval p.2):=by simp
  simp only [execOp,ho,Instr.build,Sem.run_bind,hzr,Result.andThen_ok,run_underlying ht,hm,e1,hfill]
  simp
 ·rename_i n e ht
  obtain ⟨cs',us',acc',h,hc,hfill⟩:=Qj3 S (place:=fun i=>some (i*P.cellsOf e,P.cellsOf e)) (fun i q hq=>by
   simp only [partAt,ht,Option.some.injEq] at hq
   subst hq;rfl) ⟨fun _=> .none,hzc _⟩ h
  obtain ⟨pl,hc⟩:=hc
  obtain ⟨v',acc'',h,hv'⟩:=Qr5 hc h
  refine OpDone.pure (x:= .agg us'.toArray) S h ?_ fun t' _=>hv' _
  have e1:(parts.map fun p=>(p.1,a.eval p.2)).toList=parts.toList.map fun p=>(p.1,a.eval p.2):=by simp
  simp only [execOp,ho,Instr.build,Sem.run_bind,hzr,Result.andThen_ok,run_underlying ht,Qbz hk,e1,hfill]
  simp
 ·simp at hk
def Tight (P:Program) (w:World) (h:Hw) (e:TypeId) (r:CV) (v:Value):Prop:=
 ∃n l,r= .list n l∧ARep P w {blk:=fun _ _=>none,hw:=h,own:=fun _=>none} .none (.lst false n e l) v
theorem Tight.rep {h:Hw} {e:TypeId} {r:CV} {v:Value} (T:Tight P w h e r v) {G:Gh} (hG:G.hw=h) (p:Place):∃n l,r= .list n l∧ARep P w G p (.lst false n e l) v:=by
 obtain ⟨n,l,rfl,hr⟩:=T
 subst hG
 refine ⟨n,l,rfl, ?_⟩
 simp only [ARep] at hr⊢
 rcases hr with hr|⟨h1,b,off,cap,h2,h3,h4,h5,h6,h7⟩
 ·exact .inl hr
 ·refine .inr ⟨h1,b,off,cap,h2,h3,h4,h5,h6, ?_⟩
  rcases h7 with h7|⟨h7,_⟩
  ·exact .inl h7
  ·cases h7
def Qvw (P:Program) (w w':World) (h:Hw) (e:TypeId) (r:CV) (v:Value):Prop:=
 ∃n l,r= .list n l∧((n=true∧l= []∧v= .slice none 0 0)∨
  (n=false∧∃b cap,SlAt true v b 0 l.length cap∧w.heap.size≤b∧l.length≤cap∧(∀c∈l,c.length=P.cellsOf e)∧l.length*P.cellsOf e=h b∧cap≤maxLen∧
   (∃cur,w'.heap[b]?=some (.cells cur e (0,0))∧cur.size=cap*P.cellsOf e)∧CRepLL w' h b 0 l))
structure CallOK (P:Program) (B:Nat) (W0:Base) (call:FuncId→List CV→Option CV):Prop where
 enter:∀{f args r},call f args=some r→∀vs w,(callFunc f vs).run P w= .ok (.enter f vs) w
 calls:∀{f args r},call f args=some r→∀(w:World) (h:Hw) (vs:List Value),Below B W0.W w→GlobOK W0.K.gl w h→B≤w.heap.size→(∀b,w.heap.size≤b→h b=0)→CRepT w h args vs→
  Calls P f vs.toArray w fun e w'=>∃v h',e= .returned v∧Below w.heap.size w w'∧(∀b,b<w.heap.size→h' b=h b)∧(∀b,w'.heap.size≤b→h' b=0)∧CRep w' h' r v∧(∀e,Qae P f=some e→Tight P w' h' e r v)∧∀e,Qae P f=none→W0.K.own f=some e→Qvw P w w' h' e r v
theorem QrJ:∀{vs:List AV} {xs:List Value} {acc:List Loc} {f:List CV→List Loc→Option β},vs.length=xs.length→(∀i,i<vs.length→∃p,ARep P w G p (nthD .any vs i) (xs.getD i undef))→
  (AV.cvs vs).exec call σ acc f=some r→∃cs,f cs acc=some r∧CRepT w G.hw cs xs
 | [],xs,acc,f,hl,_,h=>by
  have:xs= []:=List.eq_nil_of_length_eq_zero (by simpa using hl.symm)
  subst this
  exact ⟨[],by simpa [AV.cvs,M.exec] using h,by simp [CRepT]⟩
 |v::vs,xs,acc,f,hl,hr,h=>by
  cases xs with
  |nil=>simp at hl
  |cons x xs=>
   simp only [AV.cvs] at h
   rw [M.exec_bind'] at h
   obtain ⟨p,hp⟩:=hr 0 (by simp)
   simp only [nthD] at hp
   obtain ⟨c,h,hc⟩:=QaH (x:=x) (by simpa using hp) h
   rw [M.exec_bind'] at h
   obtain ⟨cs,h,hcs⟩:=QrJ (f:=fun cs acc'=>f (c::cs) acc') (by simpa using hl) (fun i hi=>by
    obtain ⟨p,hp⟩:=hr (i+1) (by simpa using hi)
    exact ⟨p,by simpa [nthD] using hp⟩) h
   exact ⟨_,h,by simp only [CRepT];exact ⟨_,_,rfl,hc,hcs⟩⟩
theorem Sim.called (S:Sim P B W0 d σ a w G) {w':World} {h':Hw} (hb:Below w.heap.size w w') (h1:∀b,b<w.heap.size→h' b=G.hw b) (h2:∀b,w'.heap.size≤b→h' b=0):
  Sim P B W0 d σ a w' {G with hw:=h'}∧Keeps B d w w' G {G with hw:=h'}:=by
 have N:∀q,Same q w w' G {G with hw:=h'}:=fun q=>by
  refine ⟨⟨fun b=> ?_,fun b i hi=> ?_,fun b e he=>by rw [Qcc (hb.block b (QgM he))];exact he⟩,fun _ _ _ h=>h,fun b hq=> ?_⟩
  ·by_cases hlt:b<w.heap.size
   ·exact Nat.le_of_eq (h1 b hlt).symm
   ·rw [S.mem.hw b (by omega)];omega
  ·have hlt:b<w.heap.size:=Decidable.byContradiction fun hn=>by rw [S.mem.hw b (by omega)] at hi;omega
   exact cell?_of_heap (hb.block b hlt) i
  ·have hlt:=(S.mem.own b _ hq).2.1
   exact ⟨hq,h1 b hlt,hb.block b hlt⟩
 have hbB:Below B w w':=hb.mono S.mem.base
 refine ⟨⟨⟨S.mem.below.trans hbB,Nat.le_trans S.mem.base hb.size,fun b p hp=> ?_,h2,S.mem.blk,fun d' s cs hbx=> ?_,S.mem.inj,S.mem.glob.keep (N .none).keep⟩,S.depth,⟨S.fr.len,fun i=>ARep.same (N _) (N _) _ (S.fr.rep i)⟩,S.cfg,S.marks.of (fun b hlt hf=>⟨hf,h1 b hlt,hb.block b hlt⟩) rfl hb.size⟩,
  (N .none).keep,fun b _ _ _ hp=>(N _).own b hp,fun _ _ _ _ h=>h,hbB,fun b hb=>h1 b (Nat.lt_of_lt_of_le hb S.mem.base),fun b hlt hf=>⟨hf,h1 b hlt,hb.block b hlt⟩,fun _ _=>rfl⟩
 ·have:=S.mem.own b p hp
  exact ⟨this.1,Nat.lt_of_lt_of_le this.2.1 hb.size,this.2.2⟩
 ·obtain ⟨b,vs,T,fz,R⟩:=S.mem.box d' s cs hbx
  have hlt:b<w.heap.size:=R.lt
  refine ⟨b,vs,T,fz,R.blk,R.lo,by rw [hb.block b hlt];exact R.heap,R.free,(h1 b hlt).trans R.hw,R.own,⟨R.rep.len,fun i hi=> ?_⟩⟩
  obtain ⟨u,q1,q2,q3⟩:=R.rep.rep i hi
  exact ⟨u,q1,q2,ARep.same (N _) (N _) _ q3⟩
theorem Sim.gain {w0:World} {G0:Gh} (S:Sim P B W0 d σ a w G) (K0:Keeps B d w0 w G0 G) {b:Nat} (hnew:w0.heap.size≤b) (hcells:∃cur e fz,w.heap[b]?=some (.cells cur e fz)) (hB:B≤b) (hlt:b<w.heap.size) (hn:G.own b=none) (hbx:∀d' s',G.blk d' s'≠some b) (p:Place) (hp:p≠ .none):
  Sim P B W0 d σ a w {G with own:=fun k=>if k=b then some p else G.own k}∧Keeps B d w0 w G0 {G with own:=fun k=>if k=b then some p else G.own k}:=by
 have hmk:Mk d w {G with own:=fun k=>if k=b then some p else G.own k} a.defers:=by
  obtain ⟨m0,Ds,m1,m2,m3⟩:=S.marks
  refine ⟨m0,Ds,m1,m2,fun D hD=> ?_⟩
  obtain ⟨q0,q1,q2⟩:=m3 D hD
  refine ⟨q0,q1,⟨?_,q2.1.2⟩,q2.2⟩
  have hne:D≠b:=fun e=>by
   obtain ⟨cur,e',fz,hc⟩:=hcells
   rw [←e,q1] at hc;cases hc
  simp [hne,q2.1.1]
 have N:∀q,Same q w w G {G with own:=fun k=>if k=b then some p else G.own k}:=fun q=>by
  refine ⟨Keep.refl _ _,fun _ _ _ h=>h,fun k hk=> ?_⟩
  have:k≠b:=by intro e;subst e;rw [hn] at hk;cases hk
  exact ⟨by simp [this,hk],rfl,rfl⟩
 refine ⟨⟨⟨S.mem.below,S.mem.base,fun k q hk=> ?_,S.mem.hw,S.mem.blk,fun d' s cs hbx'=> ?_,S.mem.inj,S.mem.glob⟩,S.depth,⟨S.fr.len,fun i=>ARep.same (N _) (N _) _ (S.fr.rep i)⟩,S.cfg,hmk⟩,
  K0.keep.trans (N .none).keep,fun k d' i hd hk=> ?_,fun d' s k hd hk=>K0.blk d' s k hd hk,K0.below,K0.low,fun k hk hf=> ?_,K0.lo⟩
 case refine_3=>
  obtain ⟨q1,q2,q3⟩:=K0.own k d' i hd hk
  obtain ⟨q4,_,_⟩:=(N _).own k q1
  exact ⟨q4,q2,q3⟩
 case refine_4=>
  obtain ⟨q1,q2,q3⟩:=K0.rest k hk hf
  exact ⟨⟨by simp [show k≠b by omega,q1.1],q1.2⟩,q2,q3⟩
 ·by_cases e:k=b
  ·subst e
   simp only [if_true,Option.some.injEq] at hk
   subst hk
   exact ⟨hB,hlt,hp⟩
  ·simp only [if_neg e] at hk
   exact S.mem.own k q hk
 ·obtain ⟨b',vs,T,fz,R⟩:=S.mem.box d' s cs hbx'
  have hne:b'≠b:=by intro e;subst e;exact hbx _ _ R.blk
  refine ⟨b',vs,T,fz,R.blk,R.lo,R.heap,R.free,R.hw,by simp [hne,R.own],⟨R.rep.len,fun i hi=> ?_⟩⟩
  obtain ⟨u,q1,q2,q3⟩:=R.rep.rep i hi
  exact ⟨u,q1,q2,ARep.same (N _) (N _) _ q3⟩
theorem QyE (CO:CallOK P B W0 call) (S:Sim P B W0 d σ a w G) {c:Call} {fo:Operand} (ho:o.op= .call c) (hb:c.callee= .value fo) {k:List W→List Loc→Option β}
  (h:(opM P d ops o).exec call σ acc k=some r):OpDone P B W0 d o σ a w G k r:=by
 unfold opM at h
 rw [ho] at h
 simp only [hb] at h
 rw [M.exec_bind'] at h
 obtain ⟨fv,acc1,h,hf⟩:=QaC S _ h
 rw [M.exec_bind'] at h
 obtain ⟨vs,acc2,h,hl,hr⟩:=QlY S h
 rw [M.exec_bind'] at h
 obtain ⟨cs,h,hcs⟩:=QrJ (P:=P) (w:=w) (G:=G) (xs:=c.args.toList.map a.eval) (by simp [hl]) (fun i hi=>by
  obtain ⟨x,hx⟩:∃x,c.args.toList[i]?=some x:=⟨_,List.getElem?_eq_getElem (by rw [←hl];exact hi)⟩
  refine ⟨QcF d x, ?_⟩
  have:=hr i x hx
  simpa [hx] using this) h
 cases fv with
 |val v=>
  simp only [M.exec] at h
  obtain ⟨f,hff,h⟩:=Qag h
  obtain ⟨rv,hcall,h⟩:=Qag h
  simp only [ARep] at hf
  rw [Qpc hff] at hf
  simp only [CRep] at hf
  have hrun:(execOp a.eval o).run P w= .ok (.enter f (c.args.map a.eval)) w:=by
   simp only [execOp,ho,resolve,hb,hf,Deferred.ofValue]
   simp [invoke,CO.enter hcall]
  have hcalls:=CO.calls hcall w G.hw (c.args.toList.map a.eval) S.mem.below S.mem.glob S.mem.base S.mem.hw hcs
  rw [show (c.args.toList.map a.eval).toArray=c.args.map a.eval from by apply Array.ext';simp] at hcalls
  have asl:∀{q},CV.asL rv=some q→rv= .list q.1 q.2:=by
   intro q hq
   cases rv with
   |list n l=>simp only [CV.asL,Option.some.injEq] at hq;subst hq;rfl
   |_=>simp [CV.asL] at hq
  unfold Qye at h
  cases ht:Qae P f with
  |some e=>
   rw [ht] at h
   simp only [M.exec] at h
   obtain ⟨q,hq,h⟩:=Qag h
   obtain rfl:=asl hq
   refine ⟨_,_,h,fun ρ ν next Q hn=>⟨fun _ _=>trivial, ?_⟩⟩
   rw [Oper.semAt_eq _ _ _ (Qiy (fun _ h=>by cases h) hrun),hrun,Oper.uponIn_enter]
   refine ⟨fun h=>(by cases h),QfP (hcalls.mono fun e' w' he=> ?_)⟩
   obtain ⟨v',h',rfl,hbel,h1,h2,hrep,htight,_⟩:=he
   obtain ⟨S',K⟩:=S.called hbel h1 h2
   refine hn _ _ _ (S'.put o fun t _=> ?_) K
   obtain ⟨n',l',hq',hr⟩:=(htight e ht).rep (G:={G with hw:=h'}) rfl (.tmp d t)
   cases hq'
   exact hr
  |none=>
   rw [ht] at h
   simp only [M.exec] at h
   obtain ⟨_,h⟩:=Qaf h
   have plain:∀{acc'},k (put o (.val rv)) acc'=some r→OpDone P B W0 d o σ a w G k r:=by
    intro acc' h
    refine ⟨_,_,h,fun ρ ν next Q hn=>⟨fun _ _=>trivial, ?_⟩⟩
    rw [Oper.semAt_eq _ _ _ (Qiy (fun _ h=>by cases h) hrun),hrun,Oper.uponIn_enter]
    refine ⟨fun h=>(by cases h),QfP (hcalls.mono fun e' w' he=> ?_)⟩
    obtain ⟨v',h',rfl,hbel,h1,h2,hrep,_⟩:=he
    obtain ⟨S',K⟩:=S.called hbel h1 h2
    exact hn _ _ _ (S'.put o fun t _=>by simpa only [ARep] using hrep) K
   simp only [St.get] at h
   cases hown:σ.K.own f with
   |none=>rw [hown] at h;exact plain h
   |some e=>
    rw [hown] at h
    simp only [M.exec] at h
    obtain ⟨q,hq,h⟩:=Qag h
    obtain rfl:=asl hq
    refine ⟨_,_,h,fun ρ ν next Q hn=>⟨fun _ _=>trivial, ?_⟩⟩
    rw [Oper.semAt_eq _ _ _ (Qiy (fun _ h=>by cases h) hrun),hrun,Oper.uponIn_enter]
    refine ⟨fun h=>(by cases h),QfP (hcalls.mono fun e' w' he=> ?_)⟩
    obtain ⟨v',h',rfl,hbel,h1,h2,hrep,_,hfresh⟩:=he
    obtain ⟨S',K⟩:=S.called hbel h1 h2
    rw [S.cfg] at hown
    obtain ⟨n,l,hql,hfr⟩:=hfresh e ht hown
    cases hql
    rcases hfr with hfr|⟨hq1,b,cap,hsl,hbb,hcap,hlen,hhw,hmax,hcur,hll⟩
    ·exact hn _ _ _ (S'.put o fun t _=>by simp only [ARep];exact .inl hfr) K
    ·rcases Option.eq_none_or_eq_some o.dst with hdst|⟨t,hdst⟩
     ·refine hn _ _ _ (S'.put o fun t ht'=>by rw [hdst] at ht';cases ht') K
     ·have hltw:b<w'.heap.size:=by
       obtain ⟨cur,hc,_⟩:=hcur
       exact (Array.getElem?_eq_some_iff.1 hc).1
      have hno:G.own b=none:=by
       cases hq':G.own b with
       |none=>rfl
       |some p=>have:=(S.mem.own b p hq').2.1;omega
      have hbx:∀d' s',G.blk d' s'≠some b:=by
       intro d' s' hq'
       cases hbox:box? σ.mem d' s' with
       |none=>rw [S.mem.blk d' s' hbox] at hq';cases hq'
       |some cs=>
        obtain ⟨b',vs',T,fz,R⟩:=S.mem.box d' s' cs hbox
        have:b'=b:=by have:=R.blk.symm.trans hq';simpa using this
        have hl:=R.lt
        omega
      obtain ⟨S2,K2⟩:=S'.gain K hbb (by obtain ⟨cur,hc,_⟩:=hcur;exact ⟨_,_,_,hc⟩) (Nat.le_trans S.mem.base hbb) hltw hno hbx (.tmp d t) (by simp)
      refine hn _ _ _ (S2.put o fun t' ht'=> ?_) K2
      rw [hdst] at ht'
      cases ht'
      simp only [ARep]
      exact .inr ⟨hq1,b,0,cap,hsl,hcap,hlen,by rw [Nat.zero_add,hhw];exact Nat.le_refl _,hll, .inr ⟨trivial,by simp,rfl,hhw,hmax,hcur⟩⟩
 |_=>simp [M.exec] at h
theorem CRepV.setElem {w:World} {h:Hw} {es:Nat} {c:List CV} {xs:List Value} (hc:CRepV w h c xs) (hcl:c.length=es):∀{l:List (List CV)} {us:List Value} {i:Nat},(∀c∈l,c.length=es)→i<l.length→CRepV w h l.flatten us→
  CRepV w h (setN l i c).flatten (Qdl us (i*es) xs)
 | [],us,i,_,hi,_=>by simp at hi
 |y::l,us,i,hl,hi,hr=>by
  have split:∀{c e:List CV} {us:List Value},CRepV w h (c++e) us→∃u1 u2,us=u1++u2∧u1.length=c.length∧CRepV w h c u1∧CRepV w h e u2:=by
   intro c
   induction c with
   |nil=>intro e us h;exact ⟨[],us,rfl,rfl,by simp [CRepV],by simpa using h⟩
   |cons x c ih=>
    intro e us h
    simp only [List.cons_append,CRepV] at h
    obtain ⟨v,s,rfl,q1,q2,q3⟩:=h
    obtain ⟨u1,u2,rfl,r0,r1,r2⟩:=ih q3
    refine ⟨v::u1,u2,rfl,by simp [r0], ?_,r2⟩
    simp only [CRepV]
    exact ⟨v,_,rfl,q1,q2,r1⟩
  simp only [List.flatten_cons] at hr
  obtain ⟨u1,u2,rfl,hu,hr1,hr2⟩:=split hr
  have hyl:=hl y (by simp)
  have over_app:∀(xs u1 u2:List Value) (k:Nat),k+xs.length≤u1.length→Qdl (u1++u2) k xs=Qdl u1 k xs++u2:=by
   intro xs
   induction xs with
   |nil=>intro u1 u2 k _;rfl
   |cons x xs ih=>
    intro u1 u2 k hk
    simp only [List.length_cons] at hk
    simp only [Qdl]
    rw [List.set_append_left _ _ (by omega)]
    exact ih _ _ _ (by simp;omega)
  have over_skip:∀(xs u1 u2:List Value) (k:Nat),Qdl (u1++u2) (u1.length+k) xs=u1++Qdl u2 k xs:=by
   intro xs
   induction xs with
   |nil=>intro u1 u2 k;rfl
   |cons x xs ih=>
    intro u1 u2 k
    simp only [Qdl]
    rw [List.set_append_right _ _ (by omega),Nat.add_sub_cancel_left,Nat.add_assoc]
    exact ih _ _ _
  have over_all:∀(xs us pre:List Value),xs.length=us.length→Qdl (pre++us) pre.length xs=pre++xs:=by
   intro xs
   induction xs with
   |nil=>intro us pre h;have:us= []:=List.eq_nil_of_length_eq_zero (by simpa using h.symm);subst this;simp [Qdl]
   |cons x xs ih=>
    intro us pre h
    cases us with
    |nil=>simp at h
    |cons u us=>
     simp only [Qdl]
     rw [List.set_append_right _ _ (Nat.le_refl _)]
     simp only [Nat.sub_self,List.set_cons_zero]
     have:=ih us (pre++ [x]) (by simpa using h)
     simpa using this
  have hxl:=hc.length
  cases i with
  |zero=>
   simp only [setN,List.flatten_cons,Nat.zero_mul]
   rw [over_app _ _ _ _ (by rw [hu,hyl,hxl,hcl];omega)]
   have e:=over_all xs u1 [] (by rw [hxl,hcl,hu,hyl])
   simp only [List.nil_append,List.length_nil] at e
   rw [e]
   exact hc.append hr2
  |succ i=>
   simp only [setN,List.flatten_cons]
   have e:(i+1)*es=u1.length+i*es:=by rw [hu,hyl,Nat.add_mul,Nat.one_mul,Nat.add_comm]
   rw [e,over_skip]
   exact hr1.append (CRepV.setElem hc hcl (fun c hc=>hl c (by simp [hc])) (by simpa using hi) hr2)
theorem Qnf (S:Sim P B W0 d σ a w G) {e:TypeId}:∀{parts:List (Nat×Operand)} {l:List (List CV)} {cells:Array Value} {acc:List Loc} {f:List (List CV)→List Loc→Option β},
  (∀c∈l,c.length=P.cellsOf e)→CRepV w G.hw l.flatten cells.toList→(QnB P e l parts).exec call σ acc f=some r→
   ∃l' us' acc',f l' acc'=some r∧l'.length=l.length∧(∀c∈l',c.length=P.cellsOf e)∧CRepV w G.hw l'.flatten us'∧
    Instr.fill (fun i=>some (i*P.cellsOf e,P.cellsOf e)) cells (parts.map fun p=>(p.1,a.eval p.2))=some us'.toArray
 | [],l,cells,acc,f,hl,hc,h=>⟨l,cells.toList,acc,by simpa [QnB,M.exec] using h,rfl,hl,hc,by simp [Instr.fill]⟩
 |(i,x)::parts,l,cells,acc,f,hl,hc,h=>by
  simp only [QnB] at h
  rw [M.exec_bind] at h
  obtain ⟨v,acc1,h,hv⟩:=QaC S _ h
  rw [M.exec_bind] at h
  unfold Qxo at h
  rw [M.exec_bind] at h
  obtain ⟨vs,h,hvl,hvs,_,_⟩:=Qeh hv h
  simp only [M.exec] at h
  obtain ⟨c,hcv,h⟩:=Qag h
  obtain ⟨hi,h⟩:=Qaf h
  have hi:i<l.length:=by simpa using hi
  obtain ⟨hcr,_,hcl⟩:=Qdy hvs hcv
  have hcl:c.length=P.cellsOf e:=by rw [hcl,hvl]
  have hset:=CRepV.setElem hcr hcl hl hi hc
  have hlen:∀{l:List (List CV)} {us:List Value},(∀c∈l,c.length=P.cellsOf e)→CRepV w G.hw l.flatten us→us.length=l.length*P.cellsOf e:=by
   intro l us hl hr
   rw [hr.length,List.length_flatten]
   exact QcJ hl
  have hcz:cells.size=l.length*P.cellsOf e:=by have:=hlen hl hc;simpa using this
  have hvz:(a.eval x).cells.size=P.cellsOf e:=by have:=hvs.len;simpa [hvl] using this
  have hl':∀y∈setN l i c,y.length=P.cellsOf e:=by
   intro y hy
   obtain ⟨j,hj⟩:=List.mem_iff_getElem?.1 hy
   have hjl:j<(setN l i c).length:=(List.getElem?_eq_some_iff.1 hj).1
   have e1:nthD [] (setN l i c) j=y:=by rw [Qar,hj];rfl
   rw [QaL] at e1
   split at e1
   ·rw [←e1];exact hcl
   ·rw [QaK] at hjl
    rw [Qar,List.getElem?_eq_getElem hjl] at e1
    simp only [Option.getD_some] at e1
    rw [←e1];exact hl _ (List.getElem_mem hjl)
  obtain ⟨l2,us',acc',h1,h2,h3,h4,h5⟩:=Qnf S (cells:=(Qdl cells.toList (i*P.cellsOf e) (a.eval x).cells.toList).toArray) hl' (by simpa using hset) h
  refine ⟨l2,us',acc',h1,by rw [h2,QaK],h3,h4, ?_⟩
  have hle:i*P.cellsOf e+P.cellsOf e≤l.length*P.cellsOf e:=by
   have:(i+1)*P.cellsOf e≤l.length*P.cellsOf e:=Nat.mul_le_mul_right _ hi
   rw [Nat.add_mul,Nat.one_mul] at this
   exact this
  simp only [List.map_cons,Instr.fill]
  rw [if_neg (by simp [hvz];omega)]
  rw [←h5]
  congr 1
  have hfold:=QlW (i*P.cellsOf e) (a.eval x).cells.toList 0 cells
  rw [←Array.foldl_toList,Array.toList_zipIdx]
  rw [Nat.add_zero] at hfold
  exact hfold
theorem Qsl (S:Sim P B W0 d σ a w G) {t:TypeId} {len:Nat} {parts:Array (Nat×Operand)} (ho:o.op= .buildSlice t len parts) {k:List W→List Loc→Option β}
  (h:(opM P d ops o).exec call σ acc k=some r):OpDone P B W0 d o σ a w G k r:=by
 unfold opM at h
 rw [ho] at h
 simp only at h
 split at h
 ·rename_i e ht
  simp only [M.exec] at h
  obtain ⟨h1,h⟩:=Qaf h
  obtain ⟨hpos,h⟩:=Qaf h
  obtain ⟨z,hz,h⟩:=Qag h
  rw [M.exec_bind] at h
  have hpos:P.cellsOf e≠0:=by simpa using hpos
  have h1:len*P.cellsOf e≤1024:=by simpa using h1
  simp only [Option.bind_eq_some_iff] at hz
  obtain ⟨zc,hz0,hzcv⟩:=hz
  obtain ⟨zv,hzr,hzc,hzs⟩:=Qfi (w:=w) (G:=G) hz0
  obtain ⟨hzrep,_,hzl⟩:=Qdy (hzc fun _=> .none) hzcv
  have hzlen:z.length=P.cellsOf e:=by rw [←hzrep.length];simpa using hzs
  have hpz:0<zv.cells.size:=by rw [hzs];omega
  have hinit:CRepV w G.hw (List.replicate len z).flatten ((Array.range (len*zv.cells.size)).map (fun i=>zv.cells[i%zv.cells.size]!)).toList:=by
   rw [QlT zv.cells hpz];exact hzrep.replicate len
  obtain ⟨l',us',acc',h,hl,hlen,hrep,hfill⟩:=Qnf S (cells:=(Array.range (len*zv.cells.size)).map (fun i=>zv.cells[i%zv.cells.size]!)) (l:=List.replicate len z) (fun c hc=>by rw [List.eq_of_mem_replicate hc,hzlen]) hinit h
  simp only [List.length_replicate] at hl
  rw [hzs] at hfill
  have S2:=S.pub (.cells us'.toArray e) (len*P.cellsOf e) (o.dst.map (.tmp d)) (by simp)
  have K2:=Keeps.pub (d:=d) S.mem (.cells us'.toArray e) (len*P.cellsOf e) (o.dst.map (.tmp d))
  have fin:∀(own:Bool) (acc':List Loc),k (Am.put o (.lst own false e l')) acc'=some r→OpDone P B W0 d o σ a w G k r:= ?fin
  case fin=>
   intro own acc' h
   refine OpDone.value h (x:= .slice (some (Qas w.heap.size 0)) len len) ?_ (S2.put o fun t' ht'=> ?_) K2
   ·have e1:(parts.map fun p=>(p.1,a.eval p.2)).toList=parts.toList.map fun p=>(p.1,a.eval p.2):=by simp
    have h2:¬(len*P.cellsOf e>2^24):=by
     have:(2:Nat)^24=16777216:=by decide
     omega
    by_cases hz:len*P.cellsOf e=0
    ·rw [hz] at hfill
     simp only [execOp,ho,Instr.buildSlice,Sem.run_bind,run_underlying ht,Result.andThen_ok,Qc1 hpos,hz,if_true,Sem.run_pure,e1]
     have e3:∀f:Nat→Value,(Array.range 0).map f=(#[]:Array Value):=by simp
     have e0:¬(0:Nat)>2^24:=by decide
     rw [e3] at hfill
     simp only [e0,if_false,Sem.run_bind,Sem.run_pure,Result.andThen_ok,e3,hfill]
     simp [newRow]
    ·simp only [execOp,ho,Instr.buildSlice,Sem.run_bind,run_underlying ht,Result.andThen_ok,Qc1 hpos,h2,if_false,hz,Sem.run_pure,hzr,e1,hzs,hfill]
     simp [newRow]
   ·simp only [ARep]
    refine .inr ⟨trivial,w.heap.size,0,len, .mk (by rw [hl]),by rw [hl];exact Nat.le_refl _,hlen,by rw [hl];simp [Gh.pub], ?_, ?_⟩
    ·refine CRepLL.of_cells (us:=us') (fun i u hi=> ?_) (CRepV.keep K2.keep _ hrep)
     have e1:=QjQ w us'.toArray e (0,0) (0+i)
     rw [e1,Nat.zero_add]
     simpa using hi
    ·have hul:us'.length=len*P.cellsOf e:=by rw [←CRepV.length hrep|>.symm,List.length_flatten,QcJ hlen,hl]
     have hm:len≤len*P.cellsOf e:=Nat.le_mul_of_pos_right _ (by omega)
     cases own with
     |false=>exact .inl ⟨rfl,hl.symm⟩
     |true=>exact .inr ⟨rfl,by simp [Gh.pub,ht'],rfl,by rw [hl];simp [Gh.pub],by unfold maxLen;omega,us'.toArray,heap_alloc_new w _,by simpa using hul⟩
  split at h
  ·obtain ⟨acc2,h|h⟩:=QdO h
   ·exact fin false _ h
   ·exact fin true _ h
  ·split at h
   ·obtain ⟨acc2,h|h⟩:=QdO h
    ·exact fin false _ h
    ·exact fin true _ h
   ·exact fin true _ h
 ·simp [M.exec] at h
theorem Qtb (S:Sim P B W0 d σ a w G) {t:TypeId} {x y:Operand} (ho:o.op= .makeSlice t x y) {k:List W→List Loc→Option β}
  (h:(opM P d ops o).exec call σ acc k=some r):OpDone P B W0 d o σ a w G k r:=by
 unfold opM at h
 rw [ho] at h
 simp only [M.exec_bind'] at h
 obtain ⟨v,acc',h,hv⟩:=QaC S _ h
 obtain ⟨u,acc',h,hu⟩:=QaC S _ h
 obtain ⟨cv,h,hc⟩:=QaH hv h
 obtain ⟨cu,h,hcu⟩:=QaH hu h
 split at h
 ·rename_i e ht
  simp only [M.exec] at h
  obtain ⟨l,hl,h⟩:=Qag h
  obtain ⟨c,hcc,h⟩:=Qag h
  obtain ⟨hb,h⟩:=Qaf h
  obtain ⟨hpos,h⟩:=Qaf h
  obtain ⟨z,hz,hk0⟩:=Qag h
  rw [QbW hl] at hc
  rw [QbW hcc] at hcu
  simp only [CRep] at hc hcu
  have hpos:P.cellsOf e≠0:=by simpa using hpos
  simp only [Bool.and_eq_true,decide_eq_true_eq] at hb
  obtain ⟨⟨⟨hl0,hlc⟩,hbytes⟩,hcm⟩:=hb
  simp only [Option.bind_eq_some_iff] at hz
  obtain ⟨zc,hz0,hzcv⟩:=hz
  obtain ⟨zv,hzr,hzc,hzs⟩:=Qfi (w:=w) (G:=G) hz0
  obtain ⟨hzrep,_,hzl⟩:=Qdy (hzc fun _=> .none) hzcv
  have hzlen:z.length=P.cellsOf e:=by rw [←hzrep.length];simpa using hzs
  have hpz:0<zv.cells.size:=by rw [hzs];omega
  obtain ⟨i,hi,hisz,hiby⟩:∃i,P.info? e=some i∧i.size=P.cellsOf e∧i.bytes=P.bytesOf e:=by
   unfold Program.cellsOf Program.bytesOf at*
   cases hh:P.info? e with
   |none=>simp [hh] at hpos
   |some i=>exact ⟨i,rfl,by simp,by simp⟩
  obtain ⟨ln,rfl⟩:=Int.eq_ofNat_of_zero_le hl0
  obtain ⟨cn,rfl⟩:=Int.eq_ofNat_of_zero_le (Int.le_trans hl0 hlc)
  rw [Int.toNat_natCast] at hk0
  have w1:IntKind.i64.wrap (ln:Int)=ln:=IntWalk.i64_in _ (by omega)
  have w2:IntKind.i64.wrap (cn:Int)=cn:=IntWalk.i64_in _ (by omega)
  generalize hcells:(Array.range (cn*zv.cells.size)).map (fun i=>zv.cells[i%zv.cells.size]!)=cells
  have hcl:cells.toList=(List.replicate cn zv.cells.toList).flatten:=by rw [←hcells];exact QlT zv.cells hpz cn
  have S2:=S.pub (.cells cells e) (ln*P.cellsOf e) (o.dst.map (.tmp d)) (by simp)
  have K2:=Keeps.pub (d:=d) S.mem (.cells cells e) (ln*P.cellsOf e) (o.dst.map (.tmp d))
  have hrun:(execOp a.eval o).run P w= .ok (.value (.slice (some (Qas w.heap.size 0)) ln cn)) (w.alloc (.cells cells e)):=by
   have e1:¬((cn:Int)<0):=by omega
   have hb2:(i.bytes:Int)*cn≤140737488355328:=by rw [hiby,Int.mul_comm];exact hbytes
   have e2:¬((i.bytes:Int)*cn>2^48):=by
    have:(2:Int)^48=281474976710656:=by decide
    omega
   have e3:¬((ln:Int)<0):=by omega
   have e4:¬((ln:Int)>cn):=by omega
   simp only [execOp,ho,hc,hcu,Instr.makeSlice,Sem.run_bind,run_underlying ht,Result.andThen_ok,asInt,asIntOf,Sem.run_pure,typeInfo,run_program,hi,w1,w2]
   simp only [e1,e2,e3,e4,decide_false,Bool.or_self,Bool.false_eq_true,if_false,Sem.run_bind,Result.andThen_ok,run_askRoom,Int.toNat_natCast,Qc1 hpos]
   by_cases hz:cn*P.cellsOf e=0
   ·have hcn:cn=0:=by
     rcases Nat.mul_eq_zero.1 hz with q|q
     ·exact q
     ·exact absurd q hpos
    have:cells= #[]:=by rw [←hcells,hcn];simp
    have e5:∀f:Nat→Value,(Array.range 0).map f=(#[]:Array Value):=by simp
    simp [hz,this,newRow,e5]
   ·rw [hzs] at hcells
    simp [hz,hzr,hzs,hcells,newRow]
  have fin:∀acc',k (Am.put o (.lst true false e (List.replicate ln z))) acc'=some r→OpDone P B W0 d o σ a w G k r:=by
   intro acc' hk
   refine OpDone.value hk (x:= .slice (some (Qas w.heap.size 0)) ln cn) hrun (S2.put o fun t' ht'=> ?_) K2
   simp only [ARep]
   have hrep:CRepV w G.hw (List.replicate ln z).flatten (List.replicate ln zv.cells.toList).flatten:=hzrep.replicate ln
   refine .inr ⟨trivial,w.heap.size,0,cn, .mk (by simp),by simp;omega,fun c hc=>by rw [List.eq_of_mem_replicate hc,hzlen],by simp [Gh.pub], ?_, .inr ⟨trivial, ?_⟩⟩
   ·refine CRepLL.of_cells (us:=(List.replicate ln zv.cells.toList).flatten) (fun i u hi=> ?_) (by simpa using CRepV.keep K2.keep _ hrep)
    have e1:=QjQ w cells e (0,0) (0+i)
    rw [e1,Nat.zero_add,←Array.getElem?_toList,hcl]
    have:List.replicate cn zv.cells.toList=List.replicate ln zv.cells.toList++List.replicate (cn-ln) zv.cells.toList:=by
     rw [List.replicate_append_replicate];congr 1;omega
    rw [this,List.flatten_append,List.getElem?_append_left (List.getElem?_eq_some_iff.1 hi).1]
    exact hi
   ·refine ⟨by simp [Gh.pub,ht'],rfl,by simp [Gh.pub],by unfold maxLen;omega,cells,heap_alloc_new w _, ?_⟩
    rw [←hcells,←hzs];simp
  split at hk0
  ·rename_i s hs
   obtain ⟨acc2,hk|hk⟩:=QdO hk0
   ·simp only [M.exec] at hk
    obtain ⟨hlc2,hk1⟩:=Qaf hk
    obtain ⟨hf,hk2⟩:=Qaf hk1
    clear hk hk1
    simp only [Bool.and_eq_true,Option.isNone_iff_eq_none,decide_eq_true_eq,bne_iff_ne,ne_eq] at hf hlc2
    obtain ⟨hme,hlc2⟩:=hlc2
    have hlc2:ln=cn:=by omega
    subst hlc2
    have hcells2:cells=((List.replicate ln zv.cells.toList).flatten++ []).toArray:=by apply Array.ext';simp [hcl]
    obtain ⟨S3,K3⟩:=S.newBox0 (s:=target ops s) (T:=e) hf.1 hf.2 (QoX (e:=e) (l:=List.replicate ln z) (fun c hc=>by rw [List.eq_of_mem_replicate hc,hzlen]) (hzrep.replicate ln) (zs:= []) (by simp) d _) (QeB hme)
    rw [←hcells2] at S3 K3
    refine OpDone.value hk2 (x:= .slice (some (Qas w.heap.size 0)) ln ln) hrun (w':=w.alloc (.cells cells e)) ?_ K3
    rw [hs]
    simp only [Qau,W.apply]
    refine S3.setTmp ?_
    simp only [ARep]
    refine ⟨w.heap.size,_,ln,_,by simp [Gh.put],rfl,Nat.le_refl _,Nat.le_refl _,fun _=>by simp,Ql0 w _ _ _, ?_⟩
    rw [←hcells,←hzs];simp
   ·exact fin _ hk
  ·exact fin _ hk0
 ·simp [M.exec] at h
end Go.Am
namespace Go.Am
open Go.RowKit
variable {P:Program} {B:Nat} {W0:Base} {d:Nat} {σ:St} {a:Act} {w:World} {G:Gh} {β:Type} {call:FuncId→List CV→Option CV}
 {acc:List Loc} {r:β} {o:Oper} {ops:List Oper}
theorem Qx0 (S:Sim P B W0 d σ a w G) {t:TypeId} {x:Operand} (ho:o.op= .range t x) {k:List W→List Loc→Option β}
  (h:(opM P d ops o).exec call σ acc k=some r):OpDone P B W0 d o σ a w G k r:=by
 unfold opM at h
 rw [ho] at h
 simp only [M.exec_bind'] at h
 obtain ⟨v,acc',h,hv⟩:=QaC S _ h
 obtain ⟨c,h,hc⟩:=QaH hv h
 split at h
 ·rename_i ht
  simp only [M.exec] at h
  obtain ⟨s,hs,h⟩:=Qag h
  rw [QcU hs] at hc
  simp only [CRep] at hc
  have S2:=S.pub (.stringIter ⟨s.toArray⟩ 0) 0 (o.dst.map (.tmp d)) (by simp)
  have K2:=Keeps.pub (d:=d) S.mem (.stringIter ⟨s.toArray⟩ 0) 0 (o.dst.map (.tmp d))
  refine OpDone.value h (x:= .pointer (some (Qas w.heap.size 0))) ?_ (S2.put o fun t' ht'=> ?_) K2
  ·simp [execOp,ho,hc,Instr.range,run_underlying ht]
  ·simp only [ARep]
   exact ⟨w.heap.size,rfl,by simp [Gh.pub,ht'],heap_alloc_new w _⟩
 ·simp [M.exec] at h
def World.turn (w:World) (b:Nat) (ob:Obj):World:={w with heap:=w.heap.setIfInBounds b ob}
theorem QbJ (w:World) (b:Nat) (ob:Obj) (k:Nat) (h:k≠b):(World.turn w b ob).heap[k]?=w.heap[k]?:=by
 simp only [World.turn,Array.getElem?_setIfInBounds]
 rw [if_neg (Ne.symm h)]
theorem QrS {b:Nat} {p q:Place} {s:ByteArray} {i j:Nat} (hb:w.heap[b]?=some (.stringIter s i)) (hp:G.own b=some p) (hq:q≠p):Same q w (World.turn w b (.stringIter s j)) G G:=by
 refine ⟨⟨fun _=>Nat.le_refl _,fun c o _=> ?_,fun c e he=> ?_⟩,fun _ _ _ h=>h,fun c hc=> ?_⟩
 ·by_cases e:c=b
  ·subst e
   have hlt:c<w.heap.size:=(Array.getElem?_eq_some_iff.1 hb).1
   have:(World.turn w c (.stringIter s j)).heap[c]?=some (.stringIter s j):=by simp [World.turn,hlt]
   simp [World.cell?,this,hb]
  ·exact cell?_of_heap (QbJ w b _ c e) o
 ·by_cases h:c=b
  ·subst h
   simp [QaX,World.shape?,hb] at he
  ·rw [Qcc (QbJ w b _ c h)];exact he
 ·have e:c≠b:=fun h=>by subst h;rw [hp] at hc;exact hq (Option.some.inj hc).symm
  exact ⟨hc,rfl,QbJ w b _ c e⟩
theorem Mem.turn {mem:MemT} (M:Mem P B W0 w G mem) {b:Nat} {p:Place} {s:ByteArray} {i j:Nat} (hb:w.heap[b]?=some (.stringIter s i)) (hp:G.own b=some p) (hpc:∀d s o,p≠ .cell d s o):
  Mem P B W0 (World.turn w b (.stringIter s j)) G mem:=by
 have hlo:=M.own b p hp
 have hsz:(World.turn w b (.stringIter s j)).heap.size=w.heap.size:=by simp [World.turn]
 have N:∀q,q≠p→Same q w (World.turn w b (.stringIter s j)) G G:=fun q hq=>QrS hb hp hq
 refine ⟨M.below.trans ⟨rfl,rfl,rfl,by rw [hsz];exact Nat.le_refl _,fun k hk=>QbJ w b _ k (by omega)⟩,by rw [hsz];exact M.base,fun c q hq=>by rw [hsz];exact M.own c q hq,
  fun c hc=>M.hw c (by rw [hsz] at hc;exact hc),M.blk,fun d s cs hbx=> ?_,M.inj,M.glob.keep (N .none (fun h=>hlo.2.2 h.symm)).keep⟩
 obtain ⟨c,vs,T,fz,R⟩:=M.box d s cs hbx
 have e:c≠b:=fun h=>by subst h;have:=R.own;rw [hp] at this;simp at this
 refine ⟨c,vs,T,fz,R.blk,R.lo,by rw [QbJ w b _ c e];exact R.heap,R.free,R.hw,R.own,⟨R.rep.len,fun i hi=> ?_⟩⟩
 obtain ⟨u,q1,q2,q3⟩:=R.rep.rep i hi
 exact ⟨u,q1,q2,ARep.same (N _ (by intro h;exact hpc d s i h.symm)) (N _ (fun h=>hlo.2.2 h.symm)) _ q3⟩
theorem QyH (S:Sim P B W0 d σ a w G) {x:Operand} {str:Bool} (ho:o.op= .next x str) {k:List W→List Loc→Option β}
  (h:(opM P d ops o).exec call σ acc k=some r):OpDone P B W0 d o σ a w G k r:=by
 unfold opM at h
 rw [ho] at h
 simp only at h
 split at h
 ·rename_i t
  simp only [M.exec] at h
  obtain ⟨hd,h⟩:=Qaf h
  obtain ⟨_,h⟩:=Qaf h
  have hne:∀u,o.dst=some u→u≠t:=fun u hu e=>by simp [hu,e] at hd
  have hrep:=S.fr.rep t
  simp only [St.get] at h
  generalize nthD AV.any σ.tmps t=v at h hrep
  cases v with
  |siter s pos=>
   simp only [M.exec] at h
   simp only [ARep] at hrep
   obtain ⟨b,hv,hown,hb⟩:=hrep
   have hev:a.eval (.tmp t)= .pointer (some (Qas b 0)):=hv
   have hget:∀(u:TypeId),(execOp a.eval o).run P w=((Instr.next (.pointer (some ⟨b,0,none⟩)) true o.type).run P w).andThen fun v w'=> .ok (.value v) w':=fun _=>by
    simp only [execOp,ho,hev,Sem.run_bind,Sem.run_pure]
   by_cases hlt:pos<s.length
   ·simp only [hlt,decide_true,cond_true] at h
    have S1:=S.weaken (i:=t) (v:= .any) (by simp [ARep])
    have M2:=S.mem.turn (j:=pos+(Utf8.decode ⟨s.toArray⟩ pos).2) hb hown (by simp)
    have hN:∀q,q≠Place.tmp d t→Same q w (World.turn w b (.stringIter ⟨s.toArray⟩ (pos+(Utf8.decode ⟨s.toArray⟩ pos).2))) G G:=fun q hq=>QrS hb hown hq
    have S2:=S1.step (.tmp d t) M2 (hN _ (by simp)) (fun j hj=>hN _ hj) (fun j hj=>by
     simp only [Place.tmp.injEq,true_and] at hj
     subst hj
     simp only [QaL]
     split
     ·rfl
     ·rename_i q
      have:nthD AV.any σ.tmps j= .any:=by
       rw [Qar,List.getElem?_eq_none (by simp at q;exact q)];rfl
      rw [this];rfl) (fun c _ hf=>⟨hf,rfl,QbJ w b _ c fun e=>by subst e;have:=hf.1;rw [hown] at this;cases this⟩) rfl (by simp [World.turn])
    have hlt':b<w.heap.size:=(Array.getElem?_eq_some_iff.1 hb).1
    have hb2:(World.turn w b (.stringIter ⟨s.toArray⟩ (pos+(Utf8.decode ⟨s.toArray⟩ pos).2))).heap[b]?=some (.stringIter ⟨s.toArray⟩ (pos+(Utf8.decode ⟨s.toArray⟩ pos).2)):=by
     simp [World.turn,hlt']
    have S3:=S2.weaken (i:=t) (v:= .siter s (pos+(Utf8.decode ⟨s.toArray⟩ pos).2)) (by simp only [ARep];exact ⟨b,hv,hown,hb2⟩)
    have hset:setN (setN σ.tmps t .any) t (AV.siter s (pos+(Utf8.decode ⟨s.toArray⟩ pos).2))=setN σ.tmps t (.siter s (pos+(Utf8.decode ⟨s.toArray⟩ pos).2)):=by
     have:∀(l:List AV) (i:Nat) (x y:AV),setN (setN l i x) i y=setN l i y:=by
      intro l
      induction l with
      |nil=>intros;rfl
      |cons z l ih=>intro i x y;cases i<;>simp [setN,ih]
     exact this _ _ _ _
    rw [hset] at S3
    refine OpDone.value h (x:= .tuple #[.bool true, .int .i64 pos, .int .i32 (Utf8.decode ⟨s.toArray⟩ pos).1]) (w':=World.turn w b (.stringIter ⟨s.toArray⟩ (pos+(Utf8.decode ⟨s.toArray⟩ pos).2))) (G':=G) ?_ ?_ ?_
    ·rw [hget 0]
     have hsz:pos<(⟨s.toArray⟩:ByteArray).size:=by simpa [ByteArray.size] using hlt
     simp [Instr.next,getObj,setObj,Sem.run,hb,hsz,goInt,World.turn,Result.andThen]
    ·simpa [Qau,W.apply] using S3.put o (v:= .val (.tup [.bool true, .int .i64 pos, .int .i32 (Utf8.decode ⟨s.toArray⟩ pos).1])) (x:= .tuple #[.bool true, .int .i64 pos, .int .i32 (Utf8.decode ⟨s.toArray⟩ pos).1])
      fun t' _=>by simp [ARep,CRep,CRepT]
    ·have hlo:=S.mem.own b _ hown
     exact ⟨(hN .none (by simp)).keep,fun c d' i hd hc=>(hN (.tmp d' i) (by simp;omega)).own c hc,fun _ _ _ _ h=>h,
      ⟨rfl,rfl,rfl,by simp [World.turn],fun k hk=>QbJ w b _ k (by omega)⟩,fun _ _=>rfl,
      fun c _ hf=>⟨hf,rfl,QbJ w b _ c fun e=>by subst e;have:=hf.1;rw [hown] at this;cases this⟩,fun _ _=>rfl⟩
   ·simp only [hlt,decide_false,cond_false] at h
    refine OpDone.pure (x:= .tuple #[.bool false]) S h ?_ fun t' _=>by simp [ARep,CRep,CRepT]
    rw [hget 0]
    have hsz:¬pos<(⟨s.toArray⟩:ByteArray).size:=by simpa [ByteArray.size] using hlt
    simp [Instr.next,getObj,Sem.run,hb,hsz,Result.andThen]
  |_=>simp [M.exec] at h
 ·simp [M.exec] at h
theorem MapRow.keys {es:List MapEntry} {l:List (List CV)} (h:MapRow es l):∀x∈es,MapKept.IsKey .string x.key:=fun x hx=>by
 obtain ⟨k,_,e,_⟩:=h.1 x hx
 rw [e];trivial
theorem QyR {a b:List UInt8} (h:Value.string ⟨a.toArray⟩= .string ⟨b.toArray⟩):a=b:=by
 simpa using h
theorem Qv1 {l:List (List CV)} {k:List UInt8} (h:∀c∈l,∃s:List UInt8,c= [CV.str s]):QjE l k=true↔ [CV.str k]∈l:=by
 unfold QjE
 rw [List.any_eq_true]
 constructor
 ·rintro ⟨c,hc,h2⟩
  obtain ⟨s,rfl⟩:=h c hc
  have:s=k:=by simpa using h2
  rw [←this];exact hc
 ·intro hc
  exact ⟨_,hc,by simp⟩
theorem Qst {t kt et:TypeId} {b ck:Nat} {es:Array MapEntry} {l:List (List CV)} (k:List UInt8) (hm:P.underlying t=some (.map kt et)) (hk:P.underlying kt=some .string) (hb:w.heap[b]?=some (.map es ck)) (hi:MapRow es.toList l):
  ∃es' ck',(Instr.mapUpdate t (.map (some b)) (.string ⟨k.toArray⟩) (.bool true)).run P w= .ok () (World.turn w b (.map es' ck'))∧MapRow es'.toList (l++ [[.str k]]):=by
 have hkk:MapKept.IsKey .string (.string ⟨k.toArray⟩):=trivial
 rcases MapKept.findNow_spec hkk es.toList 0 hi.keys with ⟨h1,h2⟩|⟨j,e,h1,h2,h3⟩
 ·refine ⟨es.push ⟨.string ⟨k.toArray⟩, .bool true,ck⟩,ck+1, ?_,fun x hx=> ?_,fun c hc=> ?_⟩
  ·simp [Instr.mapUpdate,run_underlying hm,MapKept.run_getObj_map hb,MapKept.run_checkKey hk hkk,MapKept.run_findKey hk h1,MapKept.run_setObj_map _ hb,Result.andThen,World.turn]
  ·simp only [Array.toList_push,List.mem_append,List.mem_singleton] at hx
   rcases hx with hx|rfl
   ·obtain ⟨k',q1,q2⟩:=hi.1 x hx
    exact ⟨k',List.mem_append_left _ q1,q2⟩
   ·exact ⟨k,by simp,rfl,rfl⟩
  ·rcases List.mem_append.1 hc with q|q
   ·obtain ⟨k',q0,x,q1,q2⟩:=hi.2 c q
    exact ⟨k',q0,x,by simp [q1],q2⟩
   ·obtain rfl:=List.mem_singleton.1 q
    exact ⟨k,rfl,_,by simp only [Array.toList_push,List.mem_append,List.mem_singleton];exact .inr rfl,rfl⟩
 ·have hj:es[j]?=some e:=by simpa using h2
  have he:e∈es.toList:=List.mem_of_getElem? h2
  refine ⟨es.modify j fun e=>{e with key:= .string ⟨k.toArray⟩,val:= .bool true},ck, ?_,fun x hx=> ?_,fun c hc=> ?_⟩
  ·simp [Instr.mapUpdate,run_underlying hm,MapKept.run_getObj_map hb,MapKept.run_checkKey hk hkk,MapKept.run_findKey hk h1,hj,h3,MapKept.run_keyThatStays hkk,MapKept.run_setObj_map _ hb,Result.andThen,World.turn]
  ·rcases MapFrom.mem_modify hx with hx|⟨e',_,rfl⟩
   ·obtain ⟨k',q1,q2⟩:=hi.1 x hx
    exact ⟨k',List.mem_append_left _ q1,q2⟩
   ·exact ⟨k,by simp,rfl,rfl⟩
  ·have hkeys:=MapKept.modify_keys (es:=es) j (fun e=>{e with key:= .string ⟨k.toArray⟩,val:= .bool true}) (fun e' he'=>by rw [hj] at he';cases he';exact h3.symm)
   obtain ⟨k',q0,hin⟩:∃k':List UInt8,c= [CV.str k']∧Value.string ⟨k'.toArray⟩∈es.toList.map (·.key):=by
    rcases List.mem_append.1 hc with q|q
    ·obtain ⟨k',q0,x,q1,q2⟩:=hi.2 c q
     exact ⟨k',q0,List.mem_map.2 ⟨x,q1,q2⟩⟩
    ·obtain rfl:=List.mem_singleton.1 q
     exact ⟨k,rfl,List.mem_map.2 ⟨e,he,h3⟩⟩
   rw [←hkeys] at hin
   exact ⟨k',q0,List.mem_map.1 hin⟩
theorem Qwg {t kt et:TypeId} {b ck:Nat} {es:Array MapEntry} {l:List (List CV)} (k:List UInt8) (hm:P.underlying t=some (.map kt et)) (hk:P.underlying kt=some .string) (hz:(zeroValue et).run P w= .ok (.bool false) w) (hb:w.heap[b]?=some (.map es ck)) (hi:MapRow es.toList l):
  (Instr.lookup t (.map (some b)) (.string ⟨k.toArray⟩) false).run P w= .ok (.bool (QjE l k)) w:=by
 have hkk:MapKept.IsKey .string (.string ⟨k.toArray⟩):=trivial
 have hkey:=Qv1 (k:=k) fun c hc=>(hi.2 c hc).imp fun _ h=>h.1
 rcases MapKept.findNow_spec hkk es.toList 0 hi.keys with ⟨h1,h2⟩|⟨j,e,h1,h2,h3⟩
 ·have hc:QjE l k=false:=by
   rw [Bool.eq_false_iff]
   intro hc
   obtain ⟨k',q0,x,q1,q2⟩:=hi.2 _ (hkey.1 hc)
   obtain rfl:k=k':=by simpa using q0
   exact h2 x q1 q2
  simp [Instr.lookup,run_underlying hm,MapKept.run_getObj_map hb,MapKept.run_checkKey hk hkk,MapKept.run_findKey hk h1,Result.andThen,hz,hc]
 ·have he:e∈es.toList:=List.mem_of_getElem? h2
  obtain ⟨k',q1,q2,q3⟩:=hi.1 e he
  have hc:QjE l k=true:=by
   have:k'=k:=QyR (q2.symm.trans h3)
   rw [←this] at hkey⊢
   exact hkey.2 q1
  simp [Instr.lookup,run_underlying hm,MapKept.run_getObj_map hb,MapKept.run_checkKey hk hkk,MapKept.run_findKey hk h1,Result.andThen,q3,hc]
theorem Qtg (G:Gh) (d s:Nat):∀{l:List (List CV)},(∀c∈l,∃k:List UInt8,c= [CV.str k])→∃vs:List Value,CellsRep P w G d s [.row mapE l] vs:=by
 have key:∀{l:List (List CV)},(∀c∈l,∃k:List UInt8,c= [CV.str k])→∃vs:List Value,CRepV w G.hw l.flatten vs:=by
  intro l
  induction l with
  |nil=>intro _;exact ⟨[],by simp [CRepV]⟩
  |cons c l ih=>
   intro h
   obtain ⟨k,rfl⟩:=h c (by simp)
   obtain ⟨vs,hv⟩:=ih fun c hc=>h c (by simp [hc])
   exact ⟨.string ⟨k.toArray⟩::vs,by
    simp only [List.flatten_cons,List.cons_append,List.nil_append,CRepV]
    exact ⟨_,_,rfl,rfl,by simp only [CRep],hv⟩⟩
 intro l h
 obtain ⟨vs,hv⟩:=key h
 refine ⟨vs,⟨fun q=>by simp [Qaz] at q,fun e l' q hne=>by cases q;exact (hne rfl).elim⟩,fun o ho=> ?_⟩
 rw [Qg3] at ho⊢
 exact (hv.cells (P:=P) (pl:=fun i=> .cell d s i)).rep o ho
theorem Qp0 {mem:MemT} (M:Mem P B W0 w G mem) {d s b ck':Nat} {l:List (List CV)} {es':Array MapEntry} (hx:box? mem d s=some [.row mapE l]) (hb:G.blk d s=some b) (q:Place):Same q w (World.turn w b (.map es' ck')) G G:=by
 obtain ⟨b0,vs,T,fz,R⟩:=M.box d s _ hx
 obtain rfl:b0=b:=by have:=R.blk.symm.trans hb;simpa using this
 obtain ⟨es,ck,hm,_⟩:=R.map
 refine ⟨⟨fun _=>Nat.le_refl _,fun c o _=> ?_,fun c e he=> ?_⟩,fun _ _ _ h=>h,fun c hc=> ?_⟩
 ·by_cases e:c=b0
  ·subst e
   have hlt:c<w.heap.size:=(Array.getElem?_eq_some_iff.1 hm).1
   have:(World.turn w c (.map es' ck')).heap[c]?=some (.map es' ck'):=by simp [World.turn,hlt]
   simp [World.cell?,this,hm]
  ·exact cell?_of_heap (QbJ w b0 _ c e) o
 ·by_cases h:c=b0
  ·subst h
   simp [QaX,World.shape?,hm] at he
  ·rw [Qcc (QbJ w b0 _ c h)];exact he
 ·have e:c≠b0:=fun h=>by subst h;rw [R.own] at hc;cases hc
  exact ⟨hc,rfl,QbJ w b0 _ c e⟩
theorem Mem.turnM {mem:MemT} (M:Mem P B W0 w G mem) {d s b ck':Nat} {l l':List (List CV)} {es':Array MapEntry} (hx:box? mem d s=some [.row mapE l]) (hb:G.blk d s=some b) (hi:MapRow es'.toList l'):
  Mem P B W0 (World.turn w b (.map es' ck')) G (QaI mem d s [.row mapE l']):=by
 have N:=fun q=>Qp0 (es':=es') (ck':=ck') M hx hb q
 have hsz:(World.turn w b (.map es' ck')).heap.size=w.heap.size:=by simp [World.turn]
 obtain ⟨b0,vs,T,fz,R⟩:=M.box d s _ hx
 obtain rfl:b0=b:=by have:=R.blk.symm.trans hb;simpa using this
 have hin:=Qis hx
 refine ⟨M.below.trans ⟨rfl,rfl,rfl,by rw [hsz];exact Nat.le_refl _,fun k hk=>QbJ w b0 _ k (by have:=R.lo;omega)⟩,by rw [hsz];exact M.base,fun c q hq=>by rw [hsz];exact M.own c q hq,
  fun c hc=>M.hw c (by rw [hsz] at hc;exact hc),fun d1 s1 h=> ?_,fun d1 s1 cs h=> ?_,M.inj,M.glob.keep (N .none).keep⟩
 ·rw [Qa4] at h
  split at h
  ·cases h
  ·exact M.blk d1 s1 h
 ·rw [Qa4] at h
  split at h
  ·rename_i e
   simp only [Option.some.injEq] at h
   subst h
   obtain ⟨rfl,rfl,_,_⟩:=e
   obtain ⟨vs',hv⟩:=Qtg (P:=P) (w:=World.turn w b0 (.map es' ck')) G d1 s1 fun c hc=>(hi.2 c hc).imp fun _ h=>h.1
   refine ⟨b0,vs'.toArray,0,(0,0),R.blk,R.lo,⟨.map es' ck',by simp [World.turn,R.lt],fun q=>by simp [Qc9] at q,fun l1 q=> ?_⟩,fun i _=>by omega,R.hw,R.own,by simpa using hv⟩
   cases q
   exact ⟨es',ck',rfl,hi⟩
  ·rename_i e
   obtain ⟨b1,vs1,T1,fz1,R1⟩:=M.box d1 s1 cs h
   have hne:b1≠b0:=fun q=>by
    subst q
    obtain ⟨rfl,rfl⟩:=M.inj _ _ _ _ _ R1.blk R.blk
    exact e ⟨rfl,rfl,hin.1,hin.2⟩
   refine ⟨b1,vs1,T1,fz1,R1.blk,R1.lo,by rw [QbJ w b0 _ b1 hne];exact R1.heap,R1.free,R1.hw,R1.own,⟨R1.rep.len,fun i hi=> ?_⟩⟩
   obtain ⟨u,q1,q2,q3⟩:=R1.rep.rep i hi
   exact ⟨u,q1,q2,ARep.same (N _) (N _) _ q3⟩
theorem Sim.turnM (S:Sim P B W0 d σ a w G) {d' s b ck':Nat} {l l':List (List CV)} {es':Array MapEntry} (hx:box? σ.mem d' s=some [.row mapE l]) (hb:G.blk d' s=some b) (hi:MapRow es'.toList l'):
  Sim P B W0 d {σ with mem:=QaI σ.mem d' s [.row mapE l']} a (World.turn w b (.map es' ck')) G∧Keeps B d w (World.turn w b (.map es' ck')) G G:=by
 have N:=fun q=>Qp0 (es':=es') (ck':=ck') S.mem hx hb q
 obtain ⟨b0,vs,T,fz,R⟩:=S.mem.box d' s _ hx
 obtain rfl:b0=b:=by have:=R.blk.symm.trans hb;simpa using this
 have hr:Rest w (World.turn w b0 (.map es' ck')) G G:=fun c _ hf=>⟨hf,rfl,QbJ w b0 _ c fun e=>by subst e;exact hf.2 _ _ hb⟩
 exact ⟨⟨S.mem.turnM hx hb hi,by rw [Qcf];exact S.depth,⟨S.fr.len,fun i=>ARep.same (N _) (N _) _ (S.fr.rep i)⟩,S.cfg,S.marks.of hr rfl (by simp [World.turn])⟩,
  (N .none).keep,fun c d1 i _ hc=>(N _).own c hc,fun _ _ _ _ h=>h,⟨rfl,rfl,rfl,by simp [World.turn],fun k hk=>QbJ w b0 _ k (by have:=R.lo;omega)⟩,fun _ _=>rfl,hr,fun _ _=>rfl⟩
theorem Sim.newMap (S:Sim P B W0 d σ a w G) {s:Nat} (hb:box? σ.mem d s=none) (hs:s<(nthD [] σ.mem d).length):
  Sim P B W0 d {σ with mem:=QaI σ.mem d s [.row mapE []]} a (w.alloc (.map #[] 0)) (G.put d s w.heap.size)∧Keeps B d w (w.alloc (.map #[] 0)) G (G.put d s w.heap.size):=by
 have hd:d<σ.mem.length:=by rw [S.depth];omega
 have N:=Qps S.mem (.map #[] 0) hb
 have hsz:(w.alloc (.map #[] 0)).heap.size=w.heap.size+1:=by simp
 have M:=S.mem
 have hM:Mem P B W0 (w.alloc (.map #[] 0)) (G.put d s w.heap.size) (QaI σ.mem d s [.row mapE []]):=by
  refine ⟨M.below.alloc M.base _,by rw [hsz];have:=M.base;omega,fun b q hq=> ?_,fun b hb'=>M.hw b (by rw [hsz] at hb';omega),fun d' s' h=> ?_,fun d' s' c h=> ?_,fun d1 s1 d2 s2 b h1 h2=> ?_,M.glob.keep (N .none).keep⟩
  ·have:=M.own b q hq
   exact ⟨this.1,by rw [hsz];omega,this.2.2⟩
  ·rw [Qa4] at h
   split at h
   ·simp at h
   ·rename_i e
    have e':¬(d'=d∧s'=s):=fun q=>e ⟨q.1,q.2,hd,hs⟩
    simp only [Gh.put,e',if_false]
    exact M.blk d' s' h
  ·rw [Qa4] at h
   split at h
   ·rename_i e
    simp only [Option.some.injEq] at h
    subst h
    obtain ⟨rfl,rfl,_,_⟩:=e
    obtain ⟨vs',hv⟩:=Qtg (P:=P) (w:=w.alloc (.map #[] 0)) (G.put d' s' w.heap.size) d' s' (l:= []) fun c hc=>by cases hc
    refine ⟨w.heap.size,vs'.toArray,0,(0,0),by simp [Gh.put],M.base,⟨.map #[] 0,heap_alloc_new w _,fun q=>by simp [Qc9] at q,fun l1 q=> ?_⟩,fun i _=>by omega,M.hw _ (Nat.le_refl _), ?_,by simpa using hv⟩
    ·cases q
     exact ⟨#[],0,rfl,fun x hx=>by simp at hx,fun c hc=>by cases hc⟩
    ·cases ho:G.own w.heap.size with
     |none=>exact ho
     |some q=>have:=(M.own _ _ ho).2.1;omega
   ·rename_i e
    obtain ⟨b,vs,T',fz,R⟩:=M.box d' s' c h
    have hlt:b<w.heap.size:=R.lt
    refine ⟨b,vs,T',fz,(N .none).blk d' s' b R.blk,R.lo,by rw [Below.heap_alloc w _ b hlt];exact R.heap,R.free,R.hw,R.own,⟨R.rep.len,fun i hi=> ?_⟩⟩
    obtain ⟨u,q1,q2,q3⟩:=R.rep.rep i hi
    exact ⟨u,q1,q2,ARep.same (N _) (N _) _ q3⟩
  ·have old:∀{d' s' b'},G.blk d' s'=some b'→b'<w.heap.size:=fun h=>by
    obtain ⟨_,_,_,_,_,R⟩:=M.blk_box h
    exact R.lt
   simp only [Gh.put] at h1 h2
   split at h1<;>split at h2
   ·rename_i p q;exact ⟨p.1.trans q.1.symm,p.2.trans q.2.symm⟩
   ·simp only [Option.some.injEq] at h1;have:=old h2;omega
   ·simp only [Option.some.injEq] at h2;have:=old h1;omega
   ·exact M.inj _ _ _ _ _ h1 h2
 have hr:Rest w (w.alloc (.map #[] 0)) G (G.put d s w.heap.size):=fun k hk hf=>⟨⟨hf.1,fun d' s' hb'=>by
  simp only [Gh.put] at hb'
  split at hb'
  ·simp only [Option.some.injEq] at hb';omega
  ·exact hf.2 d' s' hb'⟩,rfl,Below.heap_alloc w _ k hk⟩
 refine ⟨⟨hM,by rw [Qcf];exact S.depth,⟨S.fr.len,fun i=>ARep.same (N _) (N _) _ (S.fr.rep i)⟩,S.cfg,S.marks.of hr⟩,
  (N .none).keep,fun b d' i _ h=>(N _).own b h,fun d' s' b hd' hb'=> ?_,(Below.refl B w).alloc S.mem.base _,fun _ _=>rfl,hr,fun _ _=>rfl⟩
 have:¬(d'=d∧s'=s):=by omega
 simp [Gh.put,this,hb']
theorem Qqn {t et:TypeId} (h:QsW P t=some et):∃kt,P.underlying t=some (.map kt et)∧P.underlying kt=some .string:=by
 unfold QsW at h
 split at h
 ·rename_i kt et' h1
  split at h
  ·rename_i h2
   obtain rfl:=Option.some.inj h
   exact ⟨kt,h1,h2⟩
  ·cases h
 ·cases h
theorem QwG {t:TypeId} (h:QvG P t=true):(zeroValue t).run P w= .ok (.bool false) w:=by
 unfold QvG at h
 split at h
 ·rename_i i h1
  split at h
  ·rename_i b h2
   have hb:b=false:=by simpa using h
   subst hb
   simp [zeroValue,typeInfo,h1,h2,Result.andThen]
  ·cases h
 ·cases h
theorem Qqh {f:List (List CV)→List Loc→Option β} {d' s:Nat} (h:(mapM d' s).exec call σ acc f=some r):
  ∃l,f l (.box d' s::acc)=some r∧box? σ.mem d' s=some [.row mapE l]:=by
 simp only [mapM,M.exec] at h
 obtain ⟨_,h⟩:=Qaf h
 have key:∀v,QbV σ.mem d' s=v→(match v with| .row e' l=>M.chk (e'==mapE) (M.ret l)|_=>(M.fail:M (List (List CV)))).exec call σ (.box d' s::acc) f=some r→
   ∃l,f l (.box d' s::acc)=some r∧box? σ.mem d' s=some [.row mapE l]:=by
  intro v hv h
  cases v with
  |row e1 l1=>
   simp only [M.exec] at h
   obtain ⟨he,h2⟩:=Qaf h
   have he:=eq_of_beq he
   subst he
   refine ⟨l1,h2, ?_⟩
   unfold QbV at hv
   split at hv
   ·rename_i hbx;cases hv;exact hbx
   ·cases hv
  |_=>simp [M.exec] at h
 exact key _ rfl h
theorem QvE (S:Sim P B W0 d σ a w G) {t:TypeId} {x:Option Operand} (ho:o.op= .makeMap t x) {k:List W→List Loc→Option β}
  (h:(opM P d ops o).exec call σ acc k=some r):OpDone P B W0 d o σ a w G k r:=by
 unfold opM at h
 rw [ho] at h
 cases x with
 |some x=>simp [M.exec] at h
 |none=>
  cases hd:o.dst with
  |none=>simp [hd,M.exec] at h
  |some s=>
   simp only [hd,M.exec] at h
   obtain ⟨hf,h⟩:=Qaf h
   simp only [Bool.and_eq_true,Option.isNone_iff_eq_none,decide_eq_true_eq] at hf
   obtain ⟨S1,K1⟩:=S.newMap hf.1 hf.2
   refine OpDone.value h (x:= .map (some w.heap.size)) (by simp [execOp,ho,Instr.makeMap,Result.andThen]) ?_ K1
   rw [hd]
   simp only [Qau,W.apply]
   exact S1.setTmp (by simp only [ARep];exact ⟨w.heap.size,by simp [Gh.put],rfl⟩)
theorem QwM (S:Sim P B W0 d σ a w G) {t:TypeId} {x y:Operand} {ok:Bool} (ho:o.op= .lookup t x y ok) {k:List W→List Loc→Option β}
  (h:(opM P d ops o).exec call σ acc k=some r):OpDone P B W0 d o σ a w G k r:=by
 unfold opM at h
 rw [ho] at h
 simp only [M.exec_bind'] at h
 obtain ⟨v,acc',h,hv⟩:=QaC S _ h
 obtain ⟨u,acc',h,hu⟩:=QaC S _ h
 obtain ⟨c2,h,hc2⟩:=QaH hu h
 simp only [M.exec] at h
 obtain ⟨e,he,h⟩:=Qag h
 obtain ⟨hz,h⟩:=Qaf h
 obtain ⟨s,hs,h9⟩:=Qag h
 clear h
 simp only [Bool.and_eq_true,Bool.not_eq_true'] at hz
 obtain ⟨hz,rfl⟩:=hz
 obtain ⟨kt,h1,h2⟩:=Qqn he
 rw [QcU hs] at hc2
 simp only [CRep] at hc2
 cases v with
 |mpp d' s'=>
  simp only at h9
  rw [M.exec_bind] at h9
  obtain ⟨l,h9,hbx⟩:=Qqh h9
  simp only [M.exec] at h9
  simp only [ARep] at hv
  obtain ⟨b,q1,q2⟩:=hv
  obtain ⟨b0,vs,T,fz,R⟩:=S.mem.box _ _ _ hbx
  obtain rfl:b0=b:=by have:=R.blk.symm.trans q1;simpa using this
  obtain ⟨es,ck,q3,q4⟩:=R.map
  refine OpDone.pure (x:= .bool (QjE l s)) S h9 ?_ fun t' _=>by simp [ARep,CRep]
  have:=Qwg s h1 h2 (QwG hz) q3 q4
  simp only [execOp,ho,q2,hc2,Sem.run_bind,this,Result.andThen_ok,Sem.run_pure]
 |_=>simp [M.exec] at h9
theorem QtY (S:Sim P B W0 d σ a w G) {t:TypeId} {x y z:Operand} (ho:o.op= .mapUpdate t x y z) {k:List W→List Loc→Option β}
  (h:(opM P d ops o).exec call σ acc k=some r):OpDone P B W0 d o σ a w G k r:=by
 unfold opM at h
 rw [ho] at h
 simp only [M.exec] at h
 obtain ⟨hd,h⟩:=Qaf h
 simp only [M.exec_bind'] at h
 obtain ⟨v,acc',h,hv⟩:=QaC S _ h
 obtain ⟨v1,acc',h,hv1⟩:=QaC S _ h
 obtain ⟨c1,h,hc1⟩:=QaH hv1 h
 obtain ⟨v2,acc',h,hv2⟩:=QaC S _ h
 obtain ⟨c2,h,hc2⟩:=QaH hv2 h
 simp only [M.exec] at h
 obtain ⟨e,he,h⟩:=Qag h
 obtain ⟨s,hs,h⟩:=Qag h
 obtain ⟨bb,hbb,h⟩:=Qag h
 obtain ⟨htrue,h9⟩:=Qaf h
 clear h
 subst htrue
 have hd:o.dst=none:=by simpa using hd
 obtain ⟨kt,h1,h2⟩:=Qqn he
 rw [QcU hs] at hc1
 rw [Qea hbb] at hc2
 simp only [CRep] at hc1 hc2
 cases v with
 |mpp d' s'=>
  simp only at h9
  rw [M.exec_bind] at h9
  obtain ⟨l,h9,hbx⟩:=Qqh h9
  simp only [M.exec] at h9
  simp only [ARep] at hv
  obtain ⟨b,q1,q2⟩:=hv
  obtain ⟨b0,vs,T,fz,R⟩:=S.mem.box _ _ _ hbx
  obtain rfl:b0=b:=by have:=R.blk.symm.trans q1;simpa using this
  obtain ⟨es,ck,q3,q4⟩:=R.map
  obtain ⟨es',ck',hrun,hi'⟩:=Qst s h1 h2 q3 q4
  obtain ⟨S1,K1⟩:=S.turnM (ck':=ck') hbx q1 hi'
  refine OpDone.skip h9 hd (w':=World.turn w b0 (.map es' ck')) (G':=G) ?_ (by simpa [Qau,W.apply] using S1) K1
  simp only [execOp,ho,q2,hc1,hc2,Sem.run_bind,hrun,Result.andThen_ok,Sem.run_pure]
 |_=>simp [M.exec] at h9
end Go.Am
namespace Go.Am
open Go.RowKit
variable {P:Program} {w:World}
def Qjh (t:TypeDesc) (x y:CV):Option Bool:=
 match t with
 | .int k=>match x.asI k,y.asI k with
  |some a,some b=>some (a==b)
  |_,_=>none
 | .string=>match x.asS,y.asS with
  |some a,some b=>some (a==b)
  |_,_=>none
 | .bool=>match x.asB,y.asB with
  |some a,some b=>some (a==b)
  |_,_=>none
 |_=>none
def Qcs:List TypeDesc→List CV→List CV→Option Bool
 | [],_,_=>some true
 |t::ts,x::xs,y::ys=>match Qjh t x y,Qcs ts xs ys with
  |some h,some r=>some (h&&r)
  |_,_=>none
 |_::_,_,_=>none
theorem QoA {β:Type} {call:FuncId→List CV→Option CV} {σ:St}:∀{ts:List TypeDesc} {a b:List CV} {acc:List Loc} {f:Bool→List Loc→Option β} {r:β},
  (QdN ts a b).exec call σ acc f=some r→∃z,Qcs ts a b=some z∧f z acc=some r
 | [],a,b,acc,f,r,h=>⟨true,rfl,by simpa [QdN,M.exec] using h⟩
 |t::ts, [],b,acc,f,r,h=>by simp [QdN,M.exec] at h
 |t::ts,x::xs, [],acc,f,r,h=>by simp [QdN,M.exec] at h
 |t::ts,x::xs,y::ys,acc,f,r,h=>by
  unfold QdN at h
  have fin:∀{z:Bool},Qjh t x y=some z→(QdN ts xs ys).exec call σ acc (fun q acc'=>f (z&&q) acc')=some r→∃z,Qcs (t::ts) (x::xs) (y::ys)=some z∧f z acc=some r:=by
   intro z hz h
   obtain ⟨q,h1,h2⟩:=QoA h
   exact ⟨z&&q,by simp [Qcs,hz,h1],h2⟩
  cases t with
  |int k=>
   simp only [M.exec_bind',M.exec] at h
   obtain ⟨p,hp,h⟩:=Qag h
   obtain ⟨q,hq,h⟩:=Qag h
   exact fin (z:=p==q) (by simp [Qjh,hp,hq]) h
  |string=>
   simp only [M.exec_bind',M.exec] at h
   obtain ⟨p,hp,h⟩:=Qag h
   obtain ⟨q,hq,h⟩:=Qag h
   exact fin (z:=p==q) (by simp [Qjh,hp,hq]) h
  |bool=>
   simp only [M.exec_bind',M.exec] at h
   obtain ⟨p,hp,h⟩:=Qag h
   obtain ⟨q,hq,h⟩:=Qag h
   exact fin (z:=p==q) (by simp [Qjh,hp,hq]) h
  |_=>simp [M.exec_bind',M.exec] at h
theorem Qlg:∀{t1 t2:List TypeDesc} {a b:List CV} {z:Bool},Qcs (t1++t2) a b=some z→
  ∃z1 z2,Qcs t1 (a.take t1.length) (b.take t1.length)=some z1∧Qcs t2 (a.drop t1.length) (b.drop t1.length)=some z2∧z=(z1&&z2)∧t1.length≤a.length∧t1.length≤b.length
 | [],t2,a,b,z,h=>⟨true,z,rfl,by simpa using h,by simp,by simp,by simp⟩
 |t::t1,t2, [],b,z,h=>by simp [Qcs] at h
 |t::t1,t2,x::xs, [],z,h=>by simp [Qcs] at h
 |t::t1,t2,x::xs,y::ys,z,h=>by
  simp only [List.cons_append,Qcs] at h
  split at h
  ·rename_i p q h1 h2
   simp only [Option.some.injEq] at h
   subst h
   obtain ⟨z1,z2,e1,e2,rfl,l1,l2⟩:=Qlg h2
   exact ⟨p&&z1,z2,by simp [Qcs,h1,e1],by simpa using e2,by simp [Bool.and_assoc],by simpa using l1,by simpa using l2⟩
  ·cases h
theorem CRepV.drop {h:Hw}:∀(k:Nat) {cs:List CV} {vs:List Value},CRepV w h cs vs→CRepV w h (cs.drop k) (vs.drop k)
 |0,cs,vs,x=>by simpa using x
 |k+1, [],vs,x=>by simp only [CRepV] at x;subst x;simp [CRepV]
 |k+1,c::cs,vs,x=>by
  simp only [CRepV] at x
  obtain ⟨v,r,rfl,_,_,h4⟩:=x
  simpa using CRepV.drop k h4
theorem CRepV.take {h:Hw}:∀(k:Nat) {cs:List CV} {vs:List Value},CRepV w h cs vs→CRepV w h (cs.take k) (vs.take k)
 |0,cs,vs,x=>by simp [CRepV]
 |k+1, [],vs,x=>by simp only [CRepV] at x;subst x;simp [CRepV]
 |k+1,c::cs,vs,x=>by
  simp only [CRepV] at x
  obtain ⟨v,r,rfl,h2,h3,h4⟩:=x
  simp only [List.take_succ_cons,CRepV]
  exact ⟨v,_,rfl,h2,h3,CRepV.take k h4⟩
def Qig (P:Program) (t:TypeId) (vs:List Value):Value:=if Qa0 P t=true then .agg vs.toArray else vs.getD 0 undef
theorem QhJ {rec:TypeId→Option (List TypeDesc)}:∀{fs:List Field} {acc ts:List TypeDesc},Qd6 P rec fs acc=some ts→∃rest,ts=acc++rest
 | [],acc,ts,h=>by simp only [Qd6,Option.some.injEq] at h;exact ⟨[],by simp [h]⟩
 |f::r,acc,ts,h=>by
  unfold Qd6 at h
  split at h
  ·split at h
   ·obtain ⟨rest,e⟩:=QhJ h
    exact ⟨_,by rw [e,List.append_assoc]⟩
   ·cases h
  ·cases h
theorem QuN {n:Nat} {t:TypeId} {ts:List TypeDesc} (h:Qf1 P n t=some ts):(P.underlying t).isSome=true∧(Qa0 P t=false→ts.length=1):=by
 cases n with
 |zero=>simp [Qf1] at h
 |succ n=>
  unfold Qf1 at h
  split at h<;>rename_i hu
  ·simp only [Option.some.injEq] at h;subst h;simp [hu]
  ·simp only [Option.some.injEq] at h;subst h;simp [hu]
  ·simp only [Option.some.injEq] at h;subst h;simp [hu]
  ·simp [hu,Qa0]
  ·cases h
theorem Qt7 {n:Nat} {t:TypeId} {ts:List TypeDesc} (h:Qf1 P n t=some ts) (hc:P.cellsOf t=ts.length) {vs:List Value} {off:Nat} (hl:off+ts.length≤vs.length):
  (part t vs.toArray off).run P w= .ok (Qig P t ((vs.drop off).take ts.length)) w:=by
 obtain ⟨hs,h1⟩:=QuN h
 unfold part
 simp only [Sem.run_bind,Qct hs,Result.andThen_ok]
 by_cases ha:Qa0 P t=true
 ·simp only [ha,if_true,Sem.run_bind,Qbz hs,Result.andThen_ok,Sem.run_pure,Qig,hc]
  congr 2
  apply Array.ext'
  simp
 ·simp only [Bool.not_eq_true] at ha
  have:=h1 ha
  have hlt:off<vs.length:=by omega
  simp [ha,Qig,this,hlt,List.getD,List.take_one]
theorem QnJ {h:Hw}:∀{n:Nat} {t:TypeId} {ts:List TypeDesc},Qf1 P n t=some ts→∀{a b:List CV} {vs us:List Value} {z:Bool} {d:Nat},
  CRepV w h a vs→CRepV w h b us→Qcs ts a b=some z→n≤d→(Op.equalIn (d+1) t (Qig P t vs) (Qig P t us)).run P w= .ok z w
 |0,t,ts,e,a,b,vs,us,z,d,ha,hb,hz,hd=>by simp [Qf1] at e
 |n+1,t,ts,e,a,b,vs,us,z,d,ha,hb,hz,hd=>by
  unfold Qf1 at e
  have one:∀{k:TypeDesc},ts= [k]→∃x y a' b' u u' r r',a=x::a'∧b=y::b'∧vs=u::r∧us=u'::r'∧CRep w h x u∧CRep w h y u'∧Qjh k x y=some z:=by
   intro k hk
   subst hk
   cases a with
   |nil=>simp [Qcs] at hz
   |cons x a'=>
    cases b with
    |nil=>simp [Qcs] at hz
    |cons y b'=>
     simp only [CRepV] at ha hb
     obtain ⟨u,r,h1,_,h2,_⟩:=ha
     obtain ⟨u',r',h3,_,h4,_⟩:=hb
     refine ⟨x,y,a',b',u,u',r,r',rfl,rfl,h1,h3,h2,h4, ?_⟩
     simp only [Qcs] at hz
     split at hz
     ·rename_i p q hp hq
      simp only [Option.some.injEq] at hq hz
      subst hq hz
      simp [hp]
     ·cases hz
  split at e<;>rename_i hu
  ·simp only [Option.some.injEq] at e
   obtain ⟨x,y,a',b',u,u',r,r',rfl,rfl,rfl,rfl,h1,h2,h3⟩:=one e.symm
   simp only [Qjh] at h3
   split at h3
   ·rename_i p q hp hq
    rw [Qea hp] at h1
    rw [Qea hq] at h2
    simp only [CRep] at h1 h2
    subst h1 h2
    simp only [Option.some.injEq] at h3
    subst h3
    simp [Qig,Qa0,hu,run_equalIn_bool' w d t p q hu]
   ·cases h3
  ·rename_i k
   simp only [Option.some.injEq] at e
   obtain ⟨x,y,a',b',u,u',r,r',rfl,rfl,rfl,rfl,h1,h2,h3⟩:=one e.symm
   simp only [Qjh] at h3
   split at h3
   ·rename_i p q hp hq
    rw [QbW hp] at h1
    rw [QbW hq] at h2
    simp only [CRep] at h1 h2
    subst h1 h2
    simp only [Option.some.injEq] at h3
    subst h3
    simp [Qig,Qa0,hu,run_equalIn_int w d t k k p q hu]
   ·cases h3
  ·simp only [Option.some.injEq] at e
   obtain ⟨x,y,a',b',u,u',r,r',rfl,rfl,rfl,rfl,h1,h2,h3⟩:=one e.symm
   simp only [Qjh] at h3
   split at h3
   ·rename_i p q hp hq
    rw [QcU hp] at h1
    rw [QcU hq] at h2
    simp only [CRep] at h1 h2
    subst h1 h2
    simp only [Option.some.injEq] at h3
    subst h3
    simp [Qig,Qa0,hu,run_equalIn_string w d t _ _ hu,ByteArray.toList_eq]
   ·cases h3
  ·rename_i fs
   split at e
   ·rename_i hst
    have hf:P.fieldsOf t=fs:=by simp [Program.fieldsOf,hu]
    have hagg:Qa0 P t=true:=by simp [Qa0,hu]
    obtain ⟨d,rfl⟩:∃d',d=d'+1:=⟨d-1,by omega⟩
    simp only [Qig,hagg,if_true]
    rw [run_equalIn_struct w (d+1) t _ _ (by rw [hf];exact hu) hst,hf]
    have key:∀{fl:List Field} {ac:List TypeDesc} {rest:List TypeDesc} {z:Bool},Qd6 P (Qf1 P n) fl ac=some (ac++rest)→ac.length≤a.length→ac.length≤b.length→Qcs rest (a.drop ac.length) (b.drop ac.length)=some z→
      (Op.eqFields (d+1) vs.toArray us.toArray fl).run P w= .ok z w:=by
     intro fl
     induction fl with
     |nil=>
      intro ac rest z h1 _ _ h2
      simp only [Qd6,Option.some.injEq] at h1
      have:rest= []:=by simpa using h1
      subst this
      simp only [Qcs,Option.some.injEq] at h2
      subst h2
      simp [Op.eqFields]
     |cons f fl ih=>
      intro ac rest z h1 hla hlb h2
      unfold Qd6 at h1
      split at h1
      ·rename_i tf htf
       split at h1
       ·rename_i hchk
        simp only [Bool.and_eq_true,bne_iff_ne,ne_eq,beq_iff_eq] at hchk
        obtain ⟨⟨hn,ho⟩,hc⟩:=hchk
        obtain ⟨rest',hr⟩:=QhJ h1
        rw [List.append_assoc] at hr
        have hr:=List.append_cancel_left hr
        subst hr
        obtain ⟨z1,z2,e1,e2,rfl,l1,l2⟩:=Qlg h2
        have hvl:=CRepV.length ha
        have hul:=CRepV.length hb
        simp only [List.length_drop] at l1 l2
        have pa:=Qt7 (w:=w) htf hc (vs:=vs) (off:=ac.length) (by omega)
        have pb:=Qt7 (w:=w) htf hc (vs:=us) (off:=ac.length) (by omega)
        have q1:=QnJ htf ((ha.drop ac.length).take tf.length) ((hb.drop ac.length).take tf.length) e1 (d:=d) (by omega)
        simp only [List.drop_drop] at e2
        have q2:=ih (ac:=ac++tf) (rest:=rest') (z:=z2) (by rw [List.append_assoc];exact h1) (by simp;omega) (by simp;omega) (by simpa using e2)
        simp only [Op.eqFields,hn,not_false_eq_true,if_true,ne_eq,Sem.run_bind,ho,pa,pb,Result.andThen_ok,q1]
        cases z1
        ·simp
        ·simpa using q2
       ·cases h1
      ·cases h1
    obtain ⟨rest,hr⟩:=QhJ e
    simp only [List.nil_append] at hr
    subst hr
    exact key (ac:= []) (rest:=ts) (by simpa using e) (by simp) (by simp) (by simpa using hz)
   ·cases e
  ·cases e
theorem Qqw (P:Program):Qa5 P:=by
 intro β call σ acc r f op t ts a b vs us w h fs ht hte ha hb hx
 unfold Qv4 at hte
 split at hte
 ·rename_i hg
  rw [M.exec_bind] at hx
  obtain ⟨z,hz,hx⟩:=QoA hx
  obtain ⟨c,v,acc',h1,h2,h3⟩:∃c v acc',f c acc'=some r∧CRep w h c v∧(binOp op t (.agg vs.toArray) (.agg us.toArray)).run P w= .ok v w:=by
   have hq:=QnJ hte ha hb hz (d:=9999) (by omega)
   have hagg:Qa0 P t=true:=by simp [Qa0,ht]
   simp only [Qig,hagg,if_true] at hq
   cases op with
   |eql=>
    simp only [eqOp,M.exec] at hx
    exact ⟨_, .bool z,_,hx,by simp only [CRep],by rw [run_eql_struct,hq];rfl⟩
   |neq=>
    simp only [eqOp,M.exec] at hx
    exact ⟨_, .bool !z,_,hx,by simp only [CRep],by rw [run_neq_struct,hq];rfl⟩
   |_=>simp [eqOp,M.exec] at hx
  exact ⟨c,v,acc',h1,h2,h3,fun ox oy=>run_eqGuard_agg w op t ox oy _ _ hg⟩
 ·cases hte
end Go.Am
