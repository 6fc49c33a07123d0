/- The library's functions give what the plain functions say. Conditions: none. -/
import Derived.Test.YtigmcfhmpcajlaaGreatDoorAmC
import Derived.Test.YtigmcfhmpcajlaaGreatDoorEv
import Derived.Test.YtigmcfhmpcajlaaGreatDoorShelf
import Derived.Lib.AppendIntMem
import Derived.Lib.SplitLaws
import Derived.Test.YtigmcfhmpcajlaaGreatDoorWg
namespace Go.Proofs
open Go.Am Go.RowKit
noncomputable def Qyi (i:Nat):String:=((Tryz.prog.globals[i]?).map (·.name)).getD ""
structure Tw (lb:Nat) (w:World):Prop where
 maxlen:∃m,w.cell? ⟨1,0,none⟩=some (.int .i64 m)
 esyn:1≤lb→∃ev,w.cell? ⟨3,0,none⟩=some ev∧(ev= .nilIface∨∃te pe,ev= .iface te pe)
 eran:1≤lb→∃ev,w.cell? ⟨4,0,none⟩=some ev∧(ev= .nilIface∨∃te pe,ev= .iface te pe)
 pow:Lib.TabIs Tryz.prog w (Qyi 2) .u64 Lib.pow10Tab
def Ends (lb:Nat) (f:FuncId) (args:List CV) (r:CV):Prop:=
 ∀(w:World) (h:Hw) (vs:List Value),Tw lb w→(∀b,w.heap.size≤b→h b=0)→GlobOK KK.gl w h→CRepT w h args vs→
  Calls Tryz.prog f vs.toArray w fun e w'=>∃v h',e= .returned v∧Below w.heap.size w w'∧(∀b,b<w.heap.size→h' b=h b)∧(∀b,w'.heap.size≤b→h' b=0)∧CRep w' h' r v
variable {lb:Nat}
theorem Ends.small {w:World} {h:Hw} (hz:∀b,w.heap.size≤b→h b=0) {w':World} (hb:Below w.heap.size w w') {r:CV} {v:Value} (hr:CRep w' h r v):
  ∃v' h',Ending.returned v= .returned v'∧Below w.heap.size w w'∧(∀b,b<w.heap.size→h' b=h b)∧(∀b,w'.heap.size≤b→h' b=0)∧CRep w' h' r v':=
 ⟨v,h,rfl,hb,fun _ _=>rfl,fun b hb'=>hz b (Nat.le_trans hb.size hb'),hr⟩
theorem Qq2 {args:List CV} {r:CV} (e:Qgn args=some r):Ends lb QcR args r:=by
 unfold Qgn at e
 split at e
 ·rename_i s c
  simp only [Option.some.injEq] at e
  subst e
  intro w h vs hT hz _ hv
  simp only [CRepT,CRep] at hv
  obtain ⟨v1,r1,rfl,rfl,v2,r2,rfl,rfl,rfl⟩:=hv
  refine (Tryz.strings_IndexByte ⟨s.toArray⟩ c w).mono fun e w' ⟨h1,h2⟩=> ?_
  subst h1;subst h2
  exact Ends.small hz (Below.refl _ _) (by simp [CRep])
 ·cases e
theorem QpX {args:List CV} {r:CV} (e:Qh3 args=some r):Ends lb QgY args r:=by
 unfold Qh3 at e
 split at e
 ·rename_i s c
  simp only [Option.some.injEq] at e
  subst e
  intro w h vs hT hz _ hv
  simp only [CRepT,CRep] at hv
  obtain ⟨v1,r1,rfl,rfl,v2,r2,rfl,rfl,rfl⟩:=hv
  refine (Tryz.strings_TrimPrefix ⟨s.toArray⟩ ⟨c.toArray⟩ w).mono fun e w' ⟨h1,h2⟩=> ?_
  subst h1;subst h2
  exact Ends.small hz (Below.refl _ _) (by simp [CRep])
 ·cases e
theorem Qws {args:List CV} {r:CV} (e:Ql7 args=some r):Ends lb QhM args r:=by
 unfold Ql7 at e
 split at e
 ·rename_i n
  split at e
  ·rename_i hn
   simp only [Option.some.injEq] at e
   subst e
   intro w h vs hT hz _ hv
   simp only [CRepT,CRep] at hv
   obtain ⟨v1,r1,rfl,rfl,rfl⟩:=hv
   refine (Tryz.strconv_Itoa n hn.1 hn.2 w ((congrArg (fun s=>Lib.TabIs Tryz.prog w s .u64 Lib.pow10Tab) (by kernel_rfl)).mp hT.pow)).mono fun e w' ⟨h1,k,os,h2⟩=> ?_
   subst h1;subst h2
   exact Ends.small hz (Lib.below_grow _ w (Nat.le_refl _) k os) (by simp [CRep,Qtd hn.1 hn.2])
  ·cases e
 ·cases e
theorem Qxd {args:List CV} {r:CV} (e:Qpi args=some r):Ends (lb+1) Qlz args r:=by
 unfold Qpi at e
 split at e
 ·rename_i s
  split at e
  ·rename_i hs
   intro w h vs hT hz _ hv
   simp only [CRepT,CRep] at hv
   obtain ⟨v1,r1,rfl,rfl,rfl⟩:=hv
   have hsz:(⟨s.toArray⟩:ByteArray).size=s.length:=by simp [ByteArray.size]
   have hl:(⟨s.toArray⟩:ByteArray).data.toList=s:=by simp
   cases hx:Lib.atoiAll s with
   |ok v=>
    rw [hx] at e
    simp only [Option.some.injEq] at e
    subst e
    refine (Tryz.strconv_Atoi_ok ⟨s.toArray⟩ (by rw [hsz];omega) v (by rw [hl];exact hx) w).mono fun e w' ⟨h1,h2⟩=> ?_
    subst h1
    have hb:Below w.heap.size w w':=by
     rcases h2 with rfl|⟨t,rfl⟩
     ·exact Below.refl _ _
     ·exact Lib.bytesWorld_below w 5 t
    exact Ends.small hz hb (by simp [CRep,CRepT])
   |range=>
    rw [hx] at e
    simp only [Option.some.injEq] at e
    subst e
    obtain ⟨ev,h3,h4⟩:=hT.eran (by omega)
    refine (Tryz.strconv_Atoi_range ⟨s.toArray⟩ (by rw [hsz];omega) (by rw [hl];exact hx) ev w h3 h4).mono fun e w' ⟨N,h1,_,_,hb⟩=> ?_
    subst h1
    exact Ends.small hz hb (by unfold CRep;refine ⟨[_,_],rfl, ?_⟩;unfold CRepT;refine ⟨_,_,rfl,by simp [CRep], ?_⟩;unfold CRepT;exact ⟨_,_,rfl,by simp [CRep],by simp [CRepT]⟩)
   |_=>
    rw [hx] at e
    simp only [Option.some.injEq] at e
    subst e
    obtain ⟨ev,h3,h4⟩:=hT.esyn (by omega)
    refine (Any.strconv_Atoi_syntax Tryz.laysC172 ⟨s.toArray⟩ (by rw [hsz];omega) (by rw [hl];exact hx) ev w h3 h4).mono fun e w' ⟨N,h1,_,_,hb⟩=> ?_
    subst h1
    exact Ends.small hz hb (by unfold CRep;refine ⟨[_,_],rfl, ?_⟩;unfold CRepT;refine ⟨_,_,rfl,by simp [CRep], ?_⟩;unfold CRepT;exact ⟨_,_,rfl,by simp [CRep],by simp [CRepT]⟩)
  ·cases e
 ·cases e
theorem QuY {args:List CV} {r:CV} (e:QlI args=some r):Ends lb QkA args r:=by
 unfold QlI at e
 split at e
 ·rename_i s c
  simp only [Option.some.injEq] at e
  subst e
  intro w h vs hT hz _ hv
  simp only [CRepT,CRep] at hv
  obtain ⟨v1,r1,rfl,rfl,v2,r2,rfl,rfl,rfl⟩:=hv
  refine (Tryz.strings_Count_one ⟨s.toArray⟩ c w).mono fun e w' ⟨h1,h2⟩=> ?_
  subst h1;subst h2
  exact Ends.small hz (Below.refl _ _) (by simp [CRep,Lib.countByte])
 ·cases e
theorem Qr4 (s:List UInt8) (c:Int):∀k,Lib.lastIdx ⟨s.toArray⟩ c k=QnU s c k
 |0=>rfl
 |k+1=>by
  unfold Lib.lastIdx QnU
  rw [Qr4 s c k]
  have:(s.toArray[k]!)=s[k]?.getD 0:=by
   cases h:s[k]? with
   |none=>simp [h];rfl
   |some x=>simp [h]
  rw [this]
theorem Qm3 {args:List CV} {r:CV} (e:QfV args=some r):Ends lb QfU args r:=by
 unfold QfV at e
 split at e
 ·rename_i s c
  split at e
  ·rename_i hs
   simp only [Option.some.injEq] at e
   subst e
   intro w h vs hT hz _ hv
   simp only [CRepT,CRep] at hv
   obtain ⟨v1,r1,rfl,rfl,v2,r2,rfl,rfl,rfl⟩:=hv
   refine (Tryz.strings_LastIndexByte ⟨s.toArray⟩ c (by simpa [ByteArray.size] using hs) w).mono fun e w' ⟨h1,h2⟩=> ?_
   subst h1;subst h2
   refine Ends.small hz (Below.refl _ _) ?_
   show CRep _ h (.int .i64 _) _
   simp only [CRep]
   rw [←Qr4]
   rfl
  ·cases e
 ·cases e
theorem Qxr {args:List CV} {r:CV} (e:Qru args=some r):Ends lb Qcj args r:=by
 unfold Qru at e
 split at e
 ·rename_i s sep
  split at e
  ·rename_i hs
   simp only [Option.some.injEq] at e
   subst e
   intro w h vs hT hz _ hv
   simp only [CRepT,CRep] at hv
   obtain ⟨v1,r1,rfl,rfl,v2,r2,rfl,rfl,rfl⟩:=hv
   obtain ⟨m,hm⟩:=hT.maxlen
   refine (Tryz.strings_Cut ⟨s.toArray⟩ ⟨sep.toArray⟩ m w (by simpa [ByteArray.size] using hs) hm).mono fun e w' ⟨h1,n,h2⟩=> ?_
   subst h1;subst h2
   have hb:Below w.heap.size w (w.drewN n):=⟨rfl,rfl,rfl,Nat.le_refl _,fun _ _=>rfl⟩
   refine Ends.small hz hb ?_
   simp only [CRep,CRepT]
   exact ⟨[_,_,_],rfl,_,_,rfl,by simp,_,_,rfl,by simp,_,_,rfl,by simp,rfl⟩
  ·cases e
 ·cases e
theorem Qm4 {w:World} {h:Hw} {b:Nat}:∀{l:List (List CV)} {xs:List (List UInt8)} {off:Nat},Qlc l=some xs→CRepLL w h b off l→
  l.length=xs.length∧∀(j:Nat) x,(xs.map fun x=>(⟨x.toArray⟩:ByteArray))[j]?=some x→w.cell? ⟨b,off+j,none⟩=some (.string x)
 | [],xs,off,e,_=>by simp only [Qlc,Option.some.injEq] at e;subst e;exact ⟨rfl,fun j x hj=>by simp at hj⟩
 |c::l,xs,off,e,hr=>by
  unfold Qlc at e
  split at e
  ·rename_i hh;cases hh
  ·rename_i s r' hh
   simp only [List.cons.injEq] at hh
   obtain ⟨rfl,rfl⟩:=hh
   obtain ⟨ys,hy,rfl⟩:=Option.map_eq_some_iff.1 e
   simp only [CRepLL,CRepC,CRep] at hr
   obtain ⟨⟨⟨v,h1,_,rfl⟩,_⟩,h2⟩:=hr
   obtain ⟨q1,q2⟩:=Qm4 hy h2
   refine ⟨by simp [q1],fun j x hj=> ?_⟩
   cases j with
   |zero=>simp at hj;subst hj;simpa using h1
   |succ j=>
    have:=q2 j x (by simpa using hj)
    have e2:off+(j+1)=off+ [CV.str s].length+j:=by simp;omega
    rw [e2];exact this
  ·cases e
theorem QwC {args:List CV} {r:CV} (e:Qpe args=some r):Ends lb Qlt args r:=by
 unfold Qpe at e
 split at e
 ·rename_i nn l sep
  split at e
  ·rename_i xs hx
   split at e
   ·rename_i hl
    simp only [Option.some.injEq] at e
    subst e
    intro w h vs hT hz _ hv
    simp only [CRepT] at hv
    obtain ⟨v1,r1,rfl,h1,v2,r2,rfl,h2,rfl⟩:=hv
    simp only [CRep] at h1 h2
    subst h2
    rcases h1 with ⟨_,rfl,rfl⟩|⟨_,b,off,cap,es,⟨ad,rfl,had⟩,hcap,hes,hw',hll⟩
    ·simp only [Qlc,Option.some.injEq] at hx
     subst hx
     refine (Tryz.strings_Join_none none 0 ⟨sep.toArray⟩ w).mono fun e w' ⟨h1,h2⟩=> ?_
     subst h1;subst h2
     exact Ends.small hz (Below.refl _ _) (by simp [CRep,Lib.join])
    ·obtain ⟨q1,q2⟩:=Qm4 hx hll
     have hmap:(xs.map fun x=>(⟨x.toArray⟩:ByteArray)).map (·.data.toList)=xs:=by simp [Function.comp_def]
     by_cases hempty:xs= []
     ·subst hempty
      have hl0:l.length=0:=by simpa using q1
      rw [hl0]
      refine (Tryz.strings_Join_none (some ad) cap ⟨sep.toArray⟩ w).mono fun e w' ⟨h1,h2⟩=> ?_
      subst h1;subst h2
      exact Ends.small hz (Below.refl _ _) (by simp [CRep,Lib.join])
     ·have hl1:l.length≠0:=by
       have:=List.length_pos_iff.2 hempty
       omega
      obtain rfl:=had (.inr hl1)
      have hbk:b<w.heap.size:=by
       obtain ⟨x,ys,rfl⟩:=List.exists_cons_of_ne_nil hempty
       have:=q2 0 ⟨x.toArray⟩ (by simp)
       unfold World.cell? at this
       cases hh:w.heap[b]? with
       |none=>simp [hh] at this
       |some o=>exact (Array.getElem?_eq_some_iff.1 hh).1
      have:=Tryz.strings_Join b off cap (xs.map fun x=>(⟨x.toArray⟩:ByteArray)) ⟨sep.toArray⟩ w q2 hbk (by simpa using hl.1) (by simp;omega) (by rw [hmap];exact hl.2)
      rw [hmap] at this
      rw [q1]
      simp only [List.length_map] at this
      refine this.mono fun e w' ⟨h1,h2⟩=> ?_
      subst h1
      exact Ends.small hz h2 (by simp [CRep])
   ·cases e
  ·cases e
 ·cases e
theorem Qvv {args:List CV} {r:CV} (e:QkC args=some r):Ends lb Qff args r:=by
 unfold QkC at e
 split at e
 ·rename_i s sep
  split at e
  ·rename_i hs
   simp only [Option.some.injEq] at e
   subst e
   intro w h vs hT hz _ hv
   simp only [CRepT,CRep] at hv
   obtain ⟨v1,r1,rfl,rfl,v2,r2,rfl,rfl,rfl⟩:=hv
   obtain ⟨m,hm⟩:=hT.maxlen
   refine (Tryz.strings_Split ⟨s.toArray⟩ ⟨sep.toArray⟩ m w (by simpa [ByteArray.size] using hs.1) hm (by simpa [ByteArray.size] using hs.2)).mono fun e w' ⟨h1,h2⟩=> ?_
   subst h1;subst h2
   have hlen:=Lib.splitB_all ⟨sep.toArray⟩ (by simpa [ByteArray.size] using hs.2) 0 _ ⟨s.toArray⟩ rfl
   have hdata:=Lib.splitB_data ⟨sep.toArray⟩ 0 (Lib.countB ⟨s.toArray⟩ ⟨sep.toArray⟩) ⟨s.toArray⟩
   simp only [Lib.countB] at hlen hdata⊢
   rw [show Lib.splitK sep 0 (Lib.count s sep) s=Lib.split s sep from rfl] at hdata
   generalize Lib.splitB ⟨sep.toArray⟩ 0 (Lib.count s sep) ⟨s.toArray⟩=bs at hlen hdata⊢
   rw [←hlen,←hdata]
   refine ⟨_,fun b=>if b=w.heap.size then bs.length else h b,rfl,(Below.refl _ _).alloc (Nat.le_refl _) _,fun b hb=>if_neg (by omega),fun b hb=> ?_, ?_⟩
   ·have:b≠w.heap.size:=by simp at hb;omega
    simp only [if_neg this]
    exact hz b (by simp at hb;omega)
   ·simp only [CRep]
    refine .inr ⟨trivial,w.heap.size,0,bs.length,1, .mk (by simp),by simp,by simp,by simp, ?_⟩
    refine CRepLL.of_cells (us:=bs.map Value.string) (fun i u hi=> ?_) ?_
    ·rw [QjQ,Nat.zero_add]
     simpa using hi
    ·generalize w.alloc _=w2
     generalize (fun b=>if b=w.heap.size then bs.length else h b)=h2
     clear hlen hdata
     induction bs with
     |nil=>simp [CRepV]
     |cons x bs ih=>
      simp only [List.map_cons,List.flatten_cons,List.cons_append,List.nil_append,CRepV,CRep]
      exact ⟨_,_,rfl,rfl,by simp,ih⟩
  ·cases e
 ·cases e
theorem Qo9 {w:World} {h:Hw} {g off cap es:Nat} {l:List (List CV)} {us:List Value} (hlen:∀c∈l,c.length=es) (hc:l.length≤cap) (hh:off+l.length*es≤h g)
  (hcells:∀(i:Nat) u,us[i]?=some u→w.cell? ⟨g,off+i,none⟩=some u) (hv:CRepV w h l.flatten us):CRep w h (.list false l) (.slice (some ⟨g,off,none⟩) l.length cap):=by
 simp only [CRep]
 exact .inr ⟨trivial,g,off,cap,es, .mk rfl,hc,hlen,hh,CRepLL.of_cells hcells hv⟩
theorem Qvt {w:World} {h:Hw}:∀l:List Int,CRepV w h (l.map fun x=> [CV.int .i64 x]).flatten (l.map (Value.int .i64))
 | []=>by simp [CRepV]
 |x::l=>by
  simp only [List.map_cons,List.flatten_cons,List.cons_append,List.nil_append,CRepV,CRep]
  exact ⟨_,_,rfl,rfl,rfl,Qvt l⟩
theorem QlJ {w:World} {h:Hw} {b:Nat}:∀{l:List (List CV)} {s:List Int} {off:Nat},Qdr l=some s→CRepLL w h b off l→
  l.length=s.length∧∀(k:Nat) x,s[k]?=some x→w.cell? ⟨b,off+k,none⟩=some (.int .i64 x)
 | [],s,off,e,_=>by simp only [Qdr,Option.some.injEq] at e;subst e;exact ⟨rfl,fun k x hk=>by simp at hk⟩
 |c::l,s,off,e,hr=>by
  unfold Qdr at e
  split at e
  ·rename_i hh;cases hh
  ·rename_i a r' hh
   simp only [List.cons.injEq] at hh
   obtain ⟨rfl,rfl⟩:=hh
   obtain ⟨ys,hy,rfl⟩:=Option.map_eq_some_iff.1 e
   simp only [CRepLL,CRepC,CRep] at hr
   obtain ⟨⟨⟨v,h1,_,rfl⟩,_⟩,h2⟩:=hr
   obtain ⟨q1,q2⟩:=QlJ hy h2
   refine ⟨by simp [q1],fun k x hk=> ?_⟩
   cases k with
   |zero=>simp at hk;subst hk;simpa using h1
   |succ k=>
    have:=q2 k x (by simpa using hk)
    have e2:off+(k+1)=off+ [CV.int .i64 a].length+k:=by simp;omega
    rw [e2];exact this
  ·cases e
theorem Qyt {w:World} {h:Hw}:∀(gs:List (List Int)) (vs:List Value),vs.length=gs.length→(∀(j:Nat) u xs,vs[j]?=some u→gs[j]?=some xs→u.oneCell'=true∧CRep w h (.list false (xs.map fun x=> [CV.int .i64 x])) u)→CRepV w h (gs.map Qdt).flatten vs
 | [],vs,hl,_=>by
  have:vs= []:=List.eq_nil_of_length_eq_zero (by simpa using hl)
  subst this;simp [CRepV]
 |g::gs, [],hl,_=>by simp at hl
 |g::gs,v::vs,hl,hh=>by
  simp only [List.map_cons,List.flatten_cons,Qdt,List.cons_append,List.nil_append,CRepV]
  obtain ⟨h1,h2⟩:=hh 0 v g rfl rfl
  exact ⟨_,_,rfl,h1,h2,Qyt gs vs (by simpa using hl) fun j u xs hu hx=>hh (j+1) u xs (by simpa using hu) (by simpa using hx)⟩
def Qhk (w:World) (b:Nat):Nat:=match w.heap[b]? with
 |some (.cells cur _ _)=>cur.size
 |_=>0
theorem Qo3 {W:World} {base:Nat} {e:TypeId} {n g c:Nat} {xs:List Value} (h:W.ownsRow base e 1 (.slice (some ⟨g,0,none⟩) n c) n xs):n≤Qhk W g∧n≤c∧base≤g:=by
 rcases h.2 with ⟨h0,_⟩|⟨g1,c1,cur,q,hb,hg,hnc,_,hs,_⟩
 ·simp at h0
 ·simp only [Value.slice.injEq,Option.some.injEq,Addr.mk.injEq,and_true,true_and] at q
  obtain ⟨rfl,rfl⟩:=q
  exact ⟨by simp only [Qhk,hg];omega,hnc,hb⟩
theorem QuM {args:List CV} {r:CV} (e:QgV args=some r):Ends lb Qel args r:=by
 unfold QgV at e
 split at e
 ·rename_i nn l
  split at e
  ·rename_i s hs
   split at e
   ·rename_i hl
    simp only [Option.some.injEq] at e
    subst e
    intro w h vs hT hz _ hv
    simp only [CRepT] at hv
    obtain ⟨v1,r1,rfl,h2,rfl⟩:=hv
    simp only [CRep] at h2
    have key:∃(p:Option Addr) (b off cap:Nat),v1= .slice p s.length cap∧(s.length≠0→p=some ⟨b,off,none⟩)∧(s.length≠0→b<w.heap.size)∧∀(k:Nat) x,s[k]?=some x→w.cell? ⟨b,off+k,none⟩=some (.int .i64 x):=by
     rcases h2 with ⟨_,rfl,rfl⟩|⟨_,b,off,cap,es,⟨ad,rfl,had⟩,hcap,hes,hw',hll⟩
     ·simp only [Qdr,Option.some.injEq] at hs
      subst hs
      exact ⟨none,0,0,0,rfl,fun q=>absurd rfl q,fun q=>absurd rfl q,fun k x hk=>by simp at hk⟩
     ·obtain ⟨q1,q2⟩:=QlJ hs hll
      refine ⟨some ad,b,off,cap,by rw [q1],fun q=>by rw [had (.inr (by omega))],fun q=> ?_,q2⟩
      obtain ⟨x,ys,rfl⟩:=List.exists_cons_of_ne_nil (List.ne_nil_of_length_pos (Nat.pos_of_ne_zero q))
      have:=q2 0 x (by simp)
      refine Decidable.byContradiction fun hn=> ?_
      simp [World.cell?,Array.getElem?_eq_none (Nat.le_of_not_lt hn)] at this
    obtain ⟨p,b,off,cap,rfl,k1,k2,k3⟩:=key
    refine (Tryz.groups_walk s p b off cap w hl k1 k2 k3).mono fun e w' ⟨v,h1,hN,hnil,h4⟩=> ?_
    subst h1
    refine ⟨_,fun b=>if b<w.heap.size then h b else Qhk w' b,rfl,h4,fun b hb=>if_pos hb,fun b hb=> ?_, ?_⟩
    ·have:=h4.size
     simp only [if_neg (show ¬b<w.heap.size by omega)]
     simp [Qhk,Array.getElem?_eq_none hb]
    ·cases hse:s with
     |nil=>
      subst hse
      rw [hnil rfl]
      simp only [CRep]
      exact .inl ⟨rfl,rfl,trivial⟩
     |cons x0 s0=>
      have ok:=Qc7 s s.length (Nat.le_refl _)
      rw [List.take_length] at ok
      have hne:QaO s≠ []:=ok.some (by simp [hse])
      rw [←hse]
      have hemp:s.isEmpty=false:=by simp [hse]
      rw [hemp]
      obtain ⟨vs,hown,hin⟩:=hN
      obtain ⟨n,hn⟩:∃n,(QaO s).length=n+1:=⟨(QaO s).length-1,by have:=List.length_pos_iff.2 hne;omega⟩
      rw [hn] at hown
      obtain ⟨g,capg,rfl⟩:=Ql3 hown
      obtain ⟨o1,o2,o3⟩:=Qo3 hown
      have hvl:=hown.1
      have hrow:=Qo9 (w:=w') (h:=fun b=>if b<w.heap.size then h b else Qhk w' b) (g:=g) (off:=0) (cap:=capg) (es:=1) (l:=(QaO s).map Qdt) (us:=vs) (by intro c hc;obtain ⟨x,_,rfl⟩:=List.mem_map.1 hc;rfl) (by simpa [hn] using o2)
       (by simp only [if_neg (show ¬g<w.heap.size by omega)];simpa [hn] using o1) (fun i u hi=> ?_) (Qyt _ _ (by omega) fun j u xs hu hx=> ?_)
      ·simpa [hn] using hrow
      ·rw [Nat.zero_add]
       have hi2:=(List.getElem?_eq_some_iff.1 hi).1
       rw [←hi,←hown.cellAt i (by omega)]
      ·obtain ⟨b2,c2,rfl,ho⟩:=hin j u xs hu hx
       obtain ⟨p1,p2,p3⟩:=Qo3 ho
       refine ⟨rfl, ?_⟩
       have:=Qo9 (w:=w') (h:=fun b=>if b<w.heap.size then h b else Qhk w' b) (g:=b2) (off:=0) (cap:=c2) (es:=1) (l:=xs.map fun x=> [CV.int .i64 x]) (us:=xs.map (Value.int .i64)) (by simp) (by simpa using p2)
        (by simp only [if_neg (show ¬b2<w.heap.size by omega)];simpa using p1) (fun i u hi=> ?_) (Qvt _)
       ·simpa using this
       ·rw [Nat.zero_add]
        have hi2:i<xs.length:=by simpa using (List.getElem?_eq_some_iff.1 hi).1
        rw [←hi,←ho.cellAt i (by omega)]
   ·cases e
  ·cases e
 ·cases e
theorem Qf6 {f:FuncId} (h:(match Tryz.prog.funcs[f]? with|some fn=>fn.body.isSome&& !(fn.name== "runtime.NumGoroutine")|none=>false)=true):∀vs w,(callFunc f vs).run Tryz.prog w= .ok (.enter f vs) w:=by
 intro vs w
 split at h
 ·rename_i fn hf
  simp only [Bool.and_eq_true,Bool.not_eq_true',beq_eq_false_iff_ne,ne_eq] at h
  obtain ⟨c,hc⟩:=Option.isSome_iff_exists.1 h.1
  simp [callFunc,hf,h.2,hc]
 ·cases h
theorem Tw.weak {a b:Nat} {w:World} (h:a≤b) (x:Tw b w):Tw a w:=by
 cases x
 constructor<;>first|assumption|(intro q;rename_i h1;exact h1 (by omega))|(intro q;rename_i h1 _;exact h1 (by omega))|(intro q;rename_i h1 _ _;exact h1 (by omega))|(intro q;rename_i h1 _ _ _;exact h1 (by omega))|(intro q;rename_i h1 _ _ _ _;exact h1 (by omega))
theorem Ends.weak {a b:Nat} (h:a≤b) {f:FuncId} {args:List CV} {r:CV} (x:Ends a f args r):Ends b f args r:=fun w hw vs hT=>x w hw vs (hT.weak h)
set_option maxHeartbeats 2000000 in
theorem QzH (lb:Nat) (hlb:lb≤1):QnT Tryz.prog KK.gl (Tw lb) (L lb):=by
 intro f s hs args r hr
 unfold L L1 at hs
 split at hs
 ·rename_i hf;subst hf;cases hs;exact ⟨Qf6 (by kernel_rfl),Qq2 hr⟩
 split at hs
 ·rename_i hf;subst hf;cases hs;exact ⟨Qf6 (by kernel_rfl),QpX hr⟩
 split at hs
 ·rename_i hf;subst hf;cases hs;exact ⟨Qf6 (by kernel_rfl),Qws hr⟩
 split at hs
 ·rename_i hf;subst hf
  rcases lb with _|lb
  ·cases hs
  ·cases hs;exact ⟨Qf6 (by kernel_rfl),Qxd hr⟩
 split at hs
 ·rename_i hf;subst hf;cases hs;exact ⟨Qf6 (by kernel_rfl),Qxr hr⟩
 split at hs
 ·rename_i hf;subst hf;cases hs;exact ⟨Qf6 (by kernel_rfl),QwC hr⟩
 split at hs
 ·rename_i hf;subst hf;cases hs;exact ⟨Qf6 (by kernel_rfl),Qvv hr⟩
 split at hs
 ·rename_i hf;subst hf;cases hs;exact ⟨Qf6 (by kernel_rfl),QuY hr⟩
 split at hs
 ·rename_i hf;subst hf;cases hs;exact ⟨Qf6 (by kernel_rfl),Qm3 hr⟩
 split at hs
 ·rename_i hf;subst hf;cases hs;exact ⟨Qf6 (by kernel_rfl),QuM hr⟩
 ·cases hs
end Go.Proofs
