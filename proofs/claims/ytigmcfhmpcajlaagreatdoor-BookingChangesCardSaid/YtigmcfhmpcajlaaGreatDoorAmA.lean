/- How the abstract machine's values stand for values and memory of the model. Conditions: none; definitions and laws on them. -/
import Derived.Test.YtigmcfhmpcajlaaGreatDoorAm
import Derived.Below
import Derived.Calls
import Derived.Tactics
import Derived.Laws.World
import Derived.Laws.Strings
import Derived.Laws.Strings2
import Derived.Laws.Slices
import Derived.Laws.StructEq
import Derived.CallsIn
import Derived.RangeFuncCalls
import Derived.Laws.Cells
import Derived.Laws.BytesString
namespace Go.Am
open Go.RowKit
abbrev Qas (b o:Nat):Addr:=⟨b,o,none⟩
abbrev Hw:=Nat→Nat
def SlAt (x:Bool) (v:Value) (b off n cap:Nat):Prop:=∃ad,v= .slice (some ad) n cap∧(x=true∨n≠0→ad=Qas b off)
theorem SlAt.mk {x:Bool} {v:Value} {b off n cap:Nat} (h:v= .slice (some (Qas b off)) n cap):SlAt x v b off n cap:=⟨_,h,fun _=>rfl⟩
theorem SlAt.weak {x:Bool} {v:Value} {b off n cap:Nat} (h:SlAt x v b off n cap):SlAt false v b off n cap:=by
 obtain ⟨ad,h1,h2⟩:=h
 exact ⟨ad,h1,fun q=>h2 (.inr (by simpa using q))⟩
theorem SlAt.exact {x:Bool} {v:Value} {b off n cap:Nat} (h:SlAt x v b off n cap) (q:x=true∨n≠0):v= .slice (some (Qas b off)) n cap:=by
 obtain ⟨ad,h1,h2⟩:=h
 rw [h1,h2 q]
mutual
def CRep (w:World) (h:Hw):CV→Value→Prop
 | .int k n,v=>v= .int k n
 | .bool b,v=>v= .bool b
 | .str s,v=>v= .string ⟨s.toArray⟩
 | .list isnil l,v=>(isnil=true∧l= []∧v= .slice none 0 0)∨
   (isnil=false∧∃b off cap es,SlAt false v b off l.length cap∧l.length≤cap∧(∀c∈l,c.length=es)∧off+l.length*es≤h b∧CRepLL w h b off l)
 | .agg cs,v=>∃vs:List Value,v= .agg vs.toArray∧CRepV w h cs vs
 | .tup cs,v=>∃vs:List Value,v= .tuple vs.toArray∧CRepT w h cs vs
 | .fn f,v=>v= .func (.func f) #[] #[]
 | .nilfn,v=>v= .nilFunc
 | .nilptr,v=>v= .pointer none
 | .nilif,v=>v= .nilIface
 | .err,v=>∃t x,v= .iface t x
def CRepV (w:World) (h:Hw):List CV→List Value→Prop
 | [],vs=>vs= []
 |c::cs,vs=>∃v r,vs=v::r∧v.oneCell'=true∧CRep w h c v∧CRepV w h cs r
def CRepT (w:World) (h:Hw):List CV→List Value→Prop
 | [],vs=>vs= []
 |c::cs,vs=>∃v r,vs=v::r∧CRep w h c v∧CRepT w h cs r
def CRepC (w:World) (h:Hw) (b:Nat):(off:Nat)→List CV→Prop
 |_, []=>True
 |off,c::cs=>(∃v,w.cell? (Qas b off)=some v∧v.oneCell'=true∧CRep w h c v)∧CRepC w h b (off+1) cs
def CRepLL (w:World) (h:Hw) (b:Nat):(off:Nat)→List (List CV)→Prop
 |_, []=>True
 |off,c::r=>CRepC w h b off c∧CRepLL w h b (off+c.length) r
end
def QaX (w:World) (b:Nat):Option (TypeId×Nat):=w.shape? b
theorem Qcc {w w':World} {b:Nat} (h:w'.heap[b]?=w.heap[b]?):QaX w' b=QaX w b:=by
 simp [QaX,World.shape?,h]
theorem QgM {w:World} {b:Nat} {e:TypeId×Nat} (h:QaX w b=some e):b<w.heap.size:=by
 refine Decidable.byContradiction fun hn=> ?_
 simp [QaX,World.shape?,Array.getElem?_eq_none (Nat.le_of_not_lt hn)] at h
structure Keep (w w':World) (h h':Hw):Prop where
 mark:∀b,h b≤h' b
 cell:∀b o,o<h b→w'.cell? (Qas b o)=w.cell? (Qas b o)
 elem:∀b e,QaX w b=some e→QaX w' b=some e
theorem Keep.refl (w:World) (h:Hw):Keep w w h h:=⟨fun _=>Nat.le_refl _,fun _ _ _=>rfl,fun _ _ h=>h⟩
theorem Keep.trans {a b c:World} {h i j:Hw} (x:Keep a b h i) (y:Keep b c i j):Keep a c h j:=
 ⟨fun k=>Nat.le_trans (x.mark k) (y.mark k),fun k o ho=>(y.cell k o (Nat.lt_of_lt_of_le ho (x.mark k))).trans (x.cell k o ho),fun b e he=>y.elem b e (x.elem b e he)⟩
theorem QcJ {es:Nat}:∀{l:List (List CV)},(∀c∈l,c.length=es)→(l.map List.length).sum=l.length*es
 | [],_=>by simp
 |c::r,h=>by
  have h1:=h c (by simp)
  have h2:=QcJ (l:=r) fun c hc=>h c (by simp [hc])
  simp [h1,h2,Nat.add_mul];omega
mutual
theorem CRep.keep {w w':World} {h h':Hw} (K:Keep w w' h h'):∀(c:CV) {v:Value},CRep w h c v→CRep w' h' c v
 | .int ..,_,x=>by simpa [CRep] using x
 | .bool ..,_,x=>by simpa [CRep] using x
 | .str ..,_,x=>by simpa [CRep] using x
 | .fn ..,_,x=>by simpa [CRep] using x
 | .nilfn,_,x=>by simpa [CRep] using x
 | .nilptr,_,x=>by simpa [CRep] using x
 | .nilif,_,x=>by simpa [CRep] using x
 | .err,_,x=>by simpa [CRep] using x
 | .list isnil l,v,x=>by
  simp only [CRep] at x⊢
  rcases x with x|⟨h1,b,off,cap,es,h2,h3,h4,h5,h6⟩
  ·exact .inl x
  ·refine .inr ⟨h1,b,off,cap,es,h2,h3,h4,Nat.le_trans h5 (K.mark b), ?_⟩
   exact CRepLL.keep K l (by rw [QcJ h4];exact h5) h6
 | .agg cs,v,x=>by
  simp only [CRep] at x⊢
  obtain ⟨vs,h1,h2⟩:=x
  exact ⟨vs,h1,CRepV.keep K cs h2⟩
 | .tup cs,v,x=>by
  simp only [CRep] at x⊢
  obtain ⟨vs,h1,h2⟩:=x
  exact ⟨vs,h1,CRepT.keep K cs h2⟩
theorem CRepV.keep {w w':World} {h h':Hw} (K:Keep w w' h h'):∀(cs:List CV) {vs:List Value},CRepV w h cs vs→CRepV w' h' cs vs
 | [],_,x=>by simpa [CRepV] using x
 |c::cs,vs,x=>by
  simp only [CRepV] at x⊢
  obtain ⟨v,r,h1,h2,h3,h4⟩:=x
  exact ⟨v,r,h1,h2,CRep.keep K c h3,CRepV.keep K cs h4⟩
theorem CRepT.keep {w w':World} {h h':Hw} (K:Keep w w' h h'):∀(cs:List CV) {vs:List Value},CRepT w h cs vs→CRepT w' h' cs vs
 | [],_,x=>by simpa [CRepT] using x
 |c::cs,vs,x=>by
  simp only [CRepT] at x⊢
  obtain ⟨v,r,h1,h3,h4⟩:=x
  exact ⟨v,r,h1,CRep.keep K c h3,CRepT.keep K cs h4⟩
theorem CRepC.keep {w w':World} {h h':Hw} (K:Keep w w' h h') {b:Nat}:∀(cs:List CV) {off:Nat},off+cs.length≤h b→CRepC w h b off cs→CRepC w' h' b off cs
 | [],_,_,_=>by simp [CRepC]
 |c::cs,off,hb,x=>by
  simp only [CRepC] at x⊢
  obtain ⟨⟨v,h1,h2,h3⟩,h4⟩:=x
  simp only [List.length_cons] at hb
  exact ⟨⟨v,by rw [K.cell b off (by omega)];exact h1,h2,CRep.keep K c h3⟩,CRepC.keep K cs (by omega) h4⟩
theorem CRepLL.keep {w w':World} {h h':Hw} (K:Keep w w' h h') {b:Nat}:∀(l:List (List CV)) {off:Nat},off+(l.map List.length).sum≤h b→CRepLL w h b off l→CRepLL w' h' b off l
 | [],_,_,_=>by simp [CRepLL]
 |c::r,off,hb,x=>by
  simp only [CRepLL] at x⊢
  simp only [List.map_cons,List.sum_cons] at hb
  exact ⟨CRepC.keep K c (by omega) x.1,CRepLL.keep K r (by omega) x.2⟩
end
theorem CRepLL.get {w:World} {h:Hw} {b es:Nat}:∀{l:List (List CV)} {off:Nat},(∀c∈l,c.length=es)→CRepLL w h b off l→
  ∀{i:Nat} {c:List CV},l[i]?=some c→CRepC w h b (off+i*es) c
 | [],_,_,_,i,c,hi=>by simp at hi
 |x::r,off,hl,hx,i,c,hi=>by
  simp only [CRepLL] at hx
  cases i with
  |zero=>simp at hi;subst hi;simpa using hx.1
  |succ i=>
   have h1:=hl x (by simp)
   have:=CRepLL.get (l:=r) (fun c hc=>hl c (by simp [hc])) hx.2 (i:=i) (by simpa using hi)
   rw [h1] at this
   rw [Nat.add_mul,Nat.one_mul]
   have e:off+(i*es+es)=off+es+i*es:=by omega
   rw [e];exact this
theorem CRepC.get {w:World} {h:Hw} {b:Nat}:∀{cs:List CV} {off:Nat},CRepC w h b off cs→∀{i:Nat} {c:CV},cs[i]?=some c→
  ∃v,w.cell? (Qas b (off+i))=some v∧v.oneCell'=true∧CRep w h c v
 | [],_,_,i,c,hi=>by simp at hi
 |x::r,off,hx,i,c,hi=>by
  simp only [CRepC] at hx
  cases i with
  |zero=>simp at hi;subst hi;simpa using hx.1
  |succ i=>
   have:=CRepC.get (cs:=r) hx.2 (i:=i) (by simpa using hi)
   have e:off+(i+1)=off+1+i:=by omega
   rw [e];exact this
theorem CRepLL.append {w:World} {h:Hw} {b:Nat}:∀{l r:List (List CV)} {off:Nat},CRepLL w h b off l→CRepLL w h b (off+(l.map List.length).sum) r→CRepLL w h b off (l++r)
 | [],r,off,_,hr=>by simpa using hr
 |x::l,r,off,hl,hr=>by
  simp only [CRepLL,List.cons_append] at hl⊢
  refine ⟨hl.1,CRepLL.append hl.2 ?_⟩
  simp only [List.map_cons,List.sum_cons] at hr
  rw [Nat.add_assoc];exact hr
theorem CRepLL.drop {w:World} {h:Hw} {b:Nat}:∀(n:Nat) {l:List (List CV)} {off:Nat},CRepLL w h b off l→CRepLL w h b (off+((l.take n).map List.length).sum) (l.drop n)
 |0,l,off,hl=>by simpa using hl
 |n+1, [],off,hl=>by simp [CRepLL]
 |n+1,x::l,off,hl=>by
  simp only [CRepLL] at hl
  have:=CRepLL.drop n hl.2
  simp only [List.take_succ_cons,List.map_cons,List.sum_cons,List.drop_succ_cons]
  rw [←Nat.add_assoc];exact this
theorem CRepLL.take {w:World} {h:Hw} {b:Nat}:∀(n:Nat) {l:List (List CV)} {off:Nat},CRepLL w h b off l→CRepLL w h b off (l.take n)
 |0,l,off,hl=>by simp [CRepLL]
 |n+1, [],off,hl=>by simp [CRepLL]
 |n+1,x::l,off,hl=>by
  simp only [CRepLL,List.take_succ_cons] at hl⊢
  exact ⟨hl.1,CRepLL.take n hl.2⟩
theorem CRepV.length {w:World} {h:Hw}:∀{cs:List CV} {vs:List Value},CRepV w h cs vs→vs.length=cs.length
 | [],vs,x=>by simp [CRepV] at x;simp [x]
 |c::cs,vs,x=>by
  simp only [CRepV] at x
  obtain ⟨v,r,rfl,_,_,h4⟩:=x
  simp [CRepV.length h4]
theorem CRepV.get {w:World} {h:Hw}:∀{cs:List CV} {vs:List Value},CRepV w h cs vs→∀{i:Nat} {c:CV},cs[i]?=some c→
  ∃v,vs[i]?=some v∧v.oneCell'=true∧CRep w h c v
 | [],_,_,i,c,hi=>by simp at hi
 |x::r,vs,hx,i,c,hi=>by
  simp only [CRepV] at hx
  obtain ⟨v,s,rfl,h2,h3,h4⟩:=hx
  cases i with
  |zero=>simp at hi;subst hi;exact ⟨v,by simp,h2,h3⟩
  |succ i=>simpa using CRepV.get h4 (i:=i) (by simpa using hi)
theorem CRepT.length {w:World} {h:Hw}:∀{cs:List CV} {vs:List Value},CRepT w h cs vs→vs.length=cs.length
 | [],vs,x=>by simp [CRepT] at x;simp [x]
 |c::cs,vs,x=>by
  simp only [CRepT] at x
  obtain ⟨v,r,rfl,_,h4⟩:=x
  simp [CRepT.length h4]
theorem CRepT.get {w:World} {h:Hw}:∀{cs:List CV} {vs:List Value},CRepT w h cs vs→∀{i:Nat} {c:CV},cs[i]?=some c→
  ∃v,vs[i]?=some v∧CRep w h c v
 | [],_,_,i,c,hi=>by simp at hi
 |x::r,vs,hx,i,c,hi=>by
  simp only [CRepT] at hx
  obtain ⟨v,s,rfl,h3,h4⟩:=hx
  cases i with
  |zero=>simp at hi;subst hi;exact ⟨v,by simp,h3⟩
  |succ i=>simpa using CRepT.get h4 (i:=i) (by simpa using hi)
theorem CRep.oneCell {w:World} {h:Hw} {c:CV} {v:Value} (x:CRep w h c v) (hc:c.isCell=true):v.oneCell'=true:=by
 cases c with
 |agg _=>simp [CV.isCell] at hc
 |tup _=>simp [CV.isCell] at hc
 |list isnil l=>simp only [CRep] at x;rcases x with ⟨_,_,rfl⟩|⟨_,_,_,_,_,⟨_,rfl,_⟩,_⟩<;>rfl
 |err=>simp only [CRep] at x;obtain ⟨_,_,rfl⟩:=x;rfl
 |_=>simp only [CRep] at x;subst x;rfl
inductive Place where
 |tmp (d i:Nat)
 |cell (d s o:Nat)
 |none
 deriving DecidableEq
structure Gh where
 blk:Nat→Nat→Option Nat
 hw:Hw
 own:Nat→Option Place
 lo:Nat→Nat:=fun _=>0
def Spare (P:Program) (w:World) (G:Gh) (p:Place) (e:TypeId) (b off n cap:Nat):Prop:=
 G.own b=some p∧off=0∧n*P.cellsOf e=G.hw b∧cap≤maxLen∧∃cur,w.heap[b]?=some (.cells cur e (0,0))∧cur.size=cap*P.cellsOf e
structure Base where
 W:World
 K:Cfg
def GlobOK (gl:Nat→Option (List CV)) (w:World) (h:Hw):Prop:=∀g cs,gl g=some cs→cs.length≤h g∧CRepC w h g 0 cs
theorem GlobOK.keep {gl:Nat→Option (List CV)} {w w':World} {h h':Hw} (K:Keep w w' h h') (x:GlobOK gl w h):GlobOK gl w' h':=
 fun g cs e=>⟨Nat.le_trans (x g cs e).1 (K.mark g),CRepC.keep K cs (by have:=(x g cs e).1;omega) (x g cs e).2⟩
variable (P:Program)
def MapRow (es:List MapEntry) (l:List (List CV)):Prop:=(∀x∈es,∃k:List UInt8, [CV.str k]∈l∧x.key= .string ⟨k.toArray⟩∧x.val= .bool true)∧∀c∈l,∃k:List UInt8,c= [CV.str k]∧∃x∈es,x.key= .string ⟨k.toArray⟩
mutual
def ARep (w:World) (G:Gh) (p:Place):AV→Value→Prop
 | .any,_=>True
 | .undef,v=>v=Go.undef
 | .val c,v=>CRep w G.hw c v
 | .lst own isnil e l,v=>(isnil=true∧l= []∧v= .slice none 0 0)∨
   (isnil=false∧∃b off cap,SlAt own v b off l.length cap∧l.length≤cap∧(∀c∈l,c.length=P.cellsOf e)∧off+l.length*P.cellsOf e≤G.hw b∧
    CRepLL w G.hw b off l∧(own=false∧cap=l.length∨own=true∧Spare P w G p e b off l.length cap))
 | .ptr d s off,v=>∃b,G.blk d s=some b∧v= .pointer (some (Qas b off))
 | .cptr c off,v=>∃b o,v= .pointer (some (Qas b (o+off)))∧o+c.length≤G.hw b∧CRepC w G.hw b o c
 | .clo f caps,v=>∃vs:List Value,v= .func (.func f) #[] vs.toArray∧ARepL w G caps vs
 | .agg cs,v=>∃vs:List Value,v= .agg vs.toArray∧ARepL w G cs vs∧vs.all Value.oneCell'=true
 | .tup cs,v=>∃vs:List Value,v= .tuple vs.toArray∧ARepL w G cs vs
 | .row _ _,_=>False
 | .rsl e d s off len cap,v=>∃b ad c q,G.blk d s=some b∧v= .slice (some ad) len c∧len≤cap∧cap≤c∧(c≠0→ad=Qas b (off*P.cellsOf e))∧QaX w b=some q∧(off+c)*P.cellsOf e≤q.2
 | .rptr e d s i o,v=>∃b,G.blk d s=some b∧v= .pointer (some (Qas b (i*P.cellsOf e+o)))
 | .mpp d s,v=>∃b,G.blk d s=some b∧v= .map (some b)
 | .bld T,v=>∃d s b,p= .cell d s 0∧G.blk d s=some b∧(∃n,QaX w b=some (T,n))∧(v= .pointer none∨v= .pointer (some (Qas b 0)))
 | .siter s pos,v=>∃b,v= .pointer (some (Qas b 0))∧G.own b=some p∧w.heap[b]?=some (.stringIter ⟨s.toArray⟩ pos)
def ARepL (w:World) (G:Gh):List AV→List Value→Prop
 | [],vs=>vs= []
 |c::cs,vs=>∃v r,vs=v::r∧ARep w G .none c v∧ARepL w G cs r
end
end Go.Am
namespace Go.Am
open Go.RowKit
variable {P:Program}
structure Same (p:Place) (w w':World) (G G':Gh):Prop where
 keep:Keep w w' G.hw G'.hw
 blk:∀d s b,G.blk d s=some b→G'.blk d s=some b
 own:∀b,G.own b=some p→G'.own b=some p∧G'.hw b=G.hw b∧w'.heap[b]?=w.heap[b]?
theorem cell?_of_heap {w w':World} {b:Nat} (h:w'.heap[b]?=w.heap[b]?) (o:Nat):w'.cell? (Qas b o)=w.cell? (Qas b o):=by
 simp [World.cell?,h]
theorem Spare.same {w w':World} {G G':Gh} {p:Place} (S:Same p w w' G G') {e:TypeId} {b off n cap:Nat} (h:Spare P w G p e b off n cap):Spare P w' G' p e b off n cap:=by
 obtain ⟨h1,h2,h3,h4,cur,h5,h6⟩:=h
 obtain ⟨s1,s2,s3⟩:=S.own b h1
 exact ⟨s1,h2,by rw [s2];exact h3,h4,cur,by rw [s3];exact h5,h6⟩
mutual
theorem ARep.same {w w':World} {G G':Gh} {p:Place} (S:Same p w w' G G') (N:Same .none w w' G G'):∀(a:AV) {v:Value},ARep P w G p a v→ARep P w' G' p a v
 | .any,_,_=>by simp [ARep]
 | .undef,_,x=>by simpa [ARep] using x
 | .val c,v,x=>by simp only [ARep] at x⊢;exact CRep.keep S.keep c x
 | .lst own isnil e l,v,x=>by
  simp only [ARep] at x⊢
  rcases x with x|⟨h1,b,off,cap,h2,h3,h4,h5,h6,h7⟩
  ·exact .inl x
  ·refine .inr ⟨h1,b,off,cap,h2,h3,h4,Nat.le_trans h5 (S.keep.mark b),CRepLL.keep S.keep l (by rw [QcJ h4];exact h5) h6, ?_⟩
   rcases h7 with h7|⟨h7,h8⟩
   ·exact .inl h7
   ·exact .inr ⟨h7,h8.same S⟩
 | .ptr d s off,v,x=>by
  simp only [ARep] at x⊢
  obtain ⟨b,h1,h2⟩:=x
  exact ⟨b,S.blk d s b h1,h2⟩
 | .cptr c off,v,x=>by
  simp only [ARep] at x⊢
  obtain ⟨b,o,h1,h2,h3⟩:=x
  exact ⟨b,o,h1,Nat.le_trans h2 (S.keep.mark b),CRepC.keep S.keep c h2 h3⟩
 | .clo f caps,v,x=>by
  simp only [ARep] at x⊢
  obtain ⟨vs,h1,h2⟩:=x
  exact ⟨vs,h1,ARepL.same N caps h2⟩
 | .agg cs,v,x=>by
  simp only [ARep] at x⊢
  obtain ⟨vs,h1,h2,h3⟩:=x
  exact ⟨vs,h1,ARepL.same N cs h2,h3⟩
 | .tup cs,v,x=>by
  simp only [ARep] at x⊢
  obtain ⟨vs,h1,h2⟩:=x
  exact ⟨vs,h1,ARepL.same N cs h2⟩
 | .bld T,v,x=>by
  simp only [ARep] at x⊢
  obtain ⟨d,s,b,h1,h2,⟨n,h3⟩,h4⟩:=x
  exact ⟨d,s,b,h1,S.blk d s b h2,⟨n,S.keep.elem b _ h3⟩,h4⟩
 | .row e l,_,x=>by simp [ARep] at x
 | .rsl e d s off len cap,v,x=>by
  simp only [ARep] at x⊢
  obtain ⟨b,ad,c,q,h1,h2,h3,h4,h5,h6,h7⟩:=x
  exact ⟨b,ad,c,q,S.blk d s b h1,h2,h3,h4,h5,S.keep.elem b q h6,h7⟩
 | .rptr e d s i o,v,x=>by
  simp only [ARep] at x⊢
  obtain ⟨b,h1,h2⟩:=x
  exact ⟨b,S.blk d s b h1,h2⟩
 | .mpp d s,v,x=>by
  simp only [ARep] at x⊢
  obtain ⟨b,h1,h2⟩:=x
  exact ⟨b,S.blk d s b h1,h2⟩
 | .siter s pos,v,x=>by
  simp only [ARep] at x⊢
  obtain ⟨b,h1,h2,h3⟩:=x
  obtain ⟨s1,_,s3⟩:=S.own b h2
  exact ⟨b,h1,s1,by rw [s3];exact h3⟩
theorem ARepL.same {w w':World} {G G':Gh} (N:Same .none w w' G G'):∀(l:List AV) {vs:List Value},ARepL P w G l vs→ARepL P w' G' l vs
 | [],_,x=>by simpa [ARepL] using x
 |c::cs,vs,x=>by
  simp only [ARepL] at x⊢
  obtain ⟨v,r,h1,h2,h3⟩:=x
  exact ⟨v,r,h1,ARep.same N N c h2,ARepL.same N cs h3⟩
end
theorem ARep.copy {w:World} {G:Gh} {p q:Place}:∀{a:AV} {v:Value},ARep P w G p a v→ARep P w G q a.copy v
 | .any,_,_=>by simp [ARep,AV.copy]
 | .undef,_,x=>by simpa [ARep,AV.copy] using x
 | .val c,v,x=>by simpa [ARep,AV.copy] using x
 | .lst true isnil es l,v,x=>by
  simp only [ARep,AV.copy,CRep] at x⊢
  rcases x with x|⟨h1,b,off,cap,h2,h3,h4,h5,h6,h7⟩
  ·exact .inl x
  ·exact .inr ⟨h1,b,off,cap,_,h2.weak,h3,h4,h5,h6⟩
 | .lst false isnil es l,v,x=>by
  simp only [ARep,AV.copy] at x⊢
  rcases x with x|⟨h1,b,off,cap,h2,h3,h4,h5,h6,h7⟩
  ·exact .inl x
  ·exact .inr ⟨h1,b,off,cap,h2,h3,h4,h5,h6, .inl (by rcases h7 with h7|h7;exact h7;simp at h7)⟩
 | .ptr ..,v,x=>by simpa [ARep,AV.copy] using x
 | .cptr ..,v,x=>by simpa [ARep,AV.copy] using x
 | .clo ..,v,x=>by simpa [ARep,AV.copy] using x
 | .agg ..,v,x=>by simpa [ARep,AV.copy] using x
 | .tup ..,v,x=>by simpa [ARep,AV.copy] using x
 | .siter ..,v,x=>by simp [ARep,AV.copy]
 | .bld ..,v,x=>by simp [ARep,AV.copy]
 | .row ..,v,x=>by simp [ARep] at x
 | .rsl ..,v,x=>by simpa [ARep,AV.copy] using x
 | .rptr ..,v,x=>by simpa [ARep,AV.copy] using x
 | .mpp ..,v,x=>by simpa [ARep,AV.copy] using x
theorem ARep.shown {w:World} {G:Gh} {p:Place} {a:AV} {v:Value} (x:ARep P w G p a v):ARep P w G p a.shown v:=by
 cases a with
 |siter s pos=>simp [AV.shown,ARep]
 |bld T=>simp [AV.shown,ARep]
 |_=>simpa only [AV.shown] using x
theorem ARep.list {w:World} {G:Gh} {p:Place} {own isnil:Bool} {e:TypeId} {l:List (List CV)} {v:Value} (x:ARep P w G p (.lst own isnil e l) v):CRep w G.hw (.list isnil l) v:=by
 simp only [ARep,CRep] at x⊢
 rcases x with x|⟨h1,b,off,cap,h2,h3,h4,h5,h6,h7⟩
 ·exact .inl x
 ·exact .inr ⟨h1,b,off,cap,_,h2.weak,h3,h4,h5,h6⟩
theorem QaL {α:Type} (dflt:α):∀(l:List α) (i:Nat) (x:α) (j:Nat),nthD dflt (setN l i x) j=if j=i∧i<l.length then x else nthD dflt l j
 | [],i,x,j=>by simp [setN,nthD]
 |y::l,0,x,0=>by simp [setN,nthD]
 |y::l,0,x,j+1=>by simp [setN,nthD]
 |y::l,i+1,x,0=>by simp [setN,nthD]
 |y::l,i+1,x,j+1=>by
  simp only [setN,nthD,QaL dflt l i x j,List.length_cons]
  congr 1
  simp
theorem QaK {α:Type}:∀(l:List α) (i:Nat) (x:α),(setN l i x).length=l.length
 | [],_,_=>rfl
 |_::_,0,_=>rfl
 |_::l,i+1,x=>by simp [setN,QaK l i x]
theorem Qar {α:Type} (dflt:α):∀(l:List α) (i:Nat),nthD dflt l i=(l[i]?).getD dflt
 | [],i=>by simp [nthD]
 |x::l,0=>by simp [nthD]
 |x::l,i+1=>by simp [nthD,Qar dflt l i]
theorem QrZ {cs:List AV} (h:Qaz cs=false):QcB cs=cs.length:=by simp [QcB,h]
theorem Qz7 {c:List AV} {o:Nat} {v:AV} (h:Qaz c=false) (hv:Qaz [v]=false):wr c o v=setN c o v:=by simp [wr,h,hv]
theorem QkK (x y:AV) (r:List AV):Qaz (x::y::r)=false:=rfl
theorem QfF {c:List AV} {o:Nat} {v:AV} (h:Qaz c=false) (hv:Qaz [v]=false):Qaz (setN c o v)=false:=by
 cases c with
 |nil=>exact h
 |cons x r=>
  cases r with
  |nil=>
   cases o with
   |zero=>simpa [setN] using hv
   |succ o=>simpa [setN] using h
  |cons y r=>
   cases o with
   |zero=>exact QkK _ _ _
   |succ o=>cases o<;>exact QkK _ _ _
theorem Qti (c:List AV) (o:Nat) (v:AV):Qaz (wr c o v)=Qaz c:=by
 unfold wr
 split
 ·rfl
 ·rename_i h
  simp only [Bool.or_eq_false_iff] at h
  rw [QfF h.1 h.2,h.1]
theorem Qsa (c:List AV) (o:Nat) (v:AV):(wr c o v).length=c.length:=by
 unfold wr
 split
 ·rfl
 ·exact QaK _ _ _
theorem Qim (c:List AV) (o:Nat) (v:AV):QcB (wr c o v)=QcB c:=by simp [QcB,Qti,Qsa]
theorem Qk7 (c:List AV) (o:Nat) (v:AV) (j:Nat):nthD .any (wr c o v) j=if j=o∧o<QcB c∧Qaz [v]=false then v else nthD .any c j:=by
 unfold wr
 cases h1:Qaz c with
 |true=>simp [QcB,h1]
 |false=>
  cases h2:Qaz [v] with
  |true=>simp
  |false=>simp [QcB,h1,QaL]
theorem QyU {o o':Nat} (c:List AV) (v v':AV) (h:o≠o'):wr (wr c o v) o' v'=wr (wr c o' v') o v:=by
 refine List.ext_getElem (by simp [Qsa]) fun i h1 h2=> ?_
 have e:nthD .any (wr (wr c o v) o' v') i=nthD .any (wr (wr c o' v') o v) i:=by
  simp only [Qk7,Qim]
  by_cases e1:i=o'<;>by_cases e2:i=o
  ·omega
  ·simp [e2]
  ·simp [e1]
  ·simp [e1,e2]
 simpa [Qar,h1,h2] using e
abbrev MemT:=List (List (Option (List AV)))
def xp (cs:List AV):List AV:=
 match cs with
 | [.row _ l]=>l.flatten.map .val
 |_=>cs
theorem Qge {cs:List AV} (h:Qaz cs=false):xp cs=cs:=by
 unfold xp
 split
 ·simp [Qaz] at h
 ·rfl
theorem QkH {cs:List AV} {o:Nat} (h:o<QcB cs):Qaz cs=false∧o<cs.length:=by
 cases hr:Qaz cs with
 |true=>simp [QcB,hr] at h
 |false=>exact ⟨rfl,by simpa [QcB,hr] using h⟩
theorem Qc8 {cs:List AV} (h:Qaz cs=true):∃e l,cs= [.row e l]:=by
 unfold Qaz at h
 split at h
 ·split at h
  ·exact ⟨_,_,rfl⟩
  ·cases h
 ·cases h
def Fits (P:Program) (cs:List AV) (vs:List Value):Prop:=
 (Qaz cs=false→vs.length=cs.length)∧(∀e l,cs= [.row e l]→e≠mapE→l.flatten.length≤vs.length∧(∀c∈l,c.length=P.cellsOf e)∧∀v∈vs,v.oneCell'=true)
theorem Fits.of {cs:List AV} {vs:List Value} (h:Qaz cs=false) (hl:vs.length=cs.length):Fits P cs vs:=
 ⟨fun _=>hl,fun e l q _=>by rw [q] at h;simp [Qaz] at h⟩
theorem Fits.row {e:TypeId} {l:List (List CV)} {vs:List Value} (h:l.flatten.length≤vs.length) (he:∀c∈l,c.length=P.cellsOf e) (h1:∀v∈vs,v.oneCell'=true):Fits P [.row e l] vs:=
 ⟨fun q=>by simp [Qaz] at q,fun e' l' q _=>by cases q;exact ⟨h,he,h1⟩⟩
structure CellsRep (P:Program) (w:World) (G:Gh) (d s:Nat) (cs:List AV) (vs:List Value):Prop where
 len:Fits P cs vs
 rep:∀o,o<(xp cs).length→∃v,vs[o]?=some v∧v.oneCell'=true∧ARep P w G (.cell d s o) (nthD .any (xp cs) o) v
theorem CellsRep.plain {w:World} {G:Gh} {d s:Nat} {cs:List AV} {vs:List Value} (h:CellsRep P w G d s cs vs) (hr:Qaz cs=false):
  vs.length=cs.length∧∀o,o<cs.length→∃v,vs[o]?=some v∧v.oneCell'=true∧ARep P w G (.cell d s o) (nthD .any cs o) v:=by
 obtain ⟨h1,h2⟩:=h
 rw [Qge hr] at h2
 exact ⟨h1.1 hr,h2⟩
def Qc9 (cs:List AV):Bool:=
 match cs with
 | [v]=>match v with
  | .row e _=>e==mapE
  |_=>false
 |_=>false
theorem Qbw {cs:List AV} (h:Qaz cs=false):Qc9 cs=false:=by
 unfold Qc9
 split
 ·split
  ·simp [Qaz] at h
  ·rfl
 ·rfl
theorem QeB {e:TypeId} {l:List (List CV)} (h:e≠mapE):Qc9 [.row e l]=false:=by simpa [Qc9] using h
theorem Qix {w:World} {b:Nat} {cs:List AV} {vs:Array Value} {T:TypeId} {fz:Nat×Nat} (h:w.heap[b]?=some (.cells vs T fz)) (hm:Qc9 cs=false):
  ∃ob,w.heap[b]?=some ob∧(Qc9 cs=false→ob= .cells vs T fz)∧∀l,cs= [.row mapE l]→∃es ck,ob= .map es ck∧MapRow es.toList l:=
 ⟨_,h,fun _=>rfl,fun l q=>by rw [q] at hm;simp [Qc9] at hm⟩
structure BoxRep (P:Program) (B:Nat) (w:World) (G:Gh) (d s:Nat) (cs:List AV) (b:Nat) (vs:Array Value) (T:TypeId) (fz:Nat×Nat):Prop where
 blk:G.blk d s=some b
 lo:B≤b
 heap:∃ob,w.heap[b]?=some ob∧(Qc9 cs=false→ob= .cells vs T fz)∧∀l,cs= [.row mapE l]→∃es ck,ob= .map es ck∧MapRow es.toList l
 free:∀i,i<vs.size→¬(fz.1≤i∧i<fz.2)
 hw:G.hw b=0
 own:G.own b=none
 rep:CellsRep P w G d s cs vs.toList
theorem BoxRep.lt {B:Nat} {w:World} {G:Gh} {d s b:Nat} {cs:List AV} {vs:Array Value} {T:TypeId} {fz:Nat×Nat} (R:BoxRep P B w G d s cs b vs T fz):b<w.heap.size:=by
 obtain ⟨ob,h,_⟩:=R.heap
 exact (Array.getElem?_eq_some_iff.1 h).1
theorem BoxRep.cells {B:Nat} {w:World} {G:Gh} {d s b:Nat} {cs:List AV} {vs:Array Value} {T:TypeId} {fz:Nat×Nat} (R:BoxRep P B w G d s cs b vs T fz) (hm:Qc9 cs=false):w.heap[b]?=some (.cells vs T fz):=by
 obtain ⟨ob,h,h1,_⟩:=R.heap
 rw [h,h1 hm]
theorem BoxRep.map {B:Nat} {w:World} {G:Gh} {d s b:Nat} {l:List (List CV)} {vs:Array Value} {T:TypeId} {fz:Nat×Nat} (R:BoxRep P B w G d s [.row mapE l] b vs T fz):∃es ck,w.heap[b]?=some (.map es ck)∧MapRow es.toList l:=by
 obtain ⟨ob,h,_,h2⟩:=R.heap
 obtain ⟨es,ck,rfl,h3⟩:=h2 l rfl
 exact ⟨es,ck,h,h3⟩
structure Mem (P:Program) (B:Nat) (W0:Base) (w:World) (G:Gh) (mem:MemT):Prop where
 below:Below B W0.W w
 base:B≤w.heap.size
 own:∀b p,G.own b=some p→B≤b∧b<w.heap.size∧p≠ .none
 hw:∀b,w.heap.size≤b→G.hw b=0
 blk:∀d s,box? mem d s=none→G.blk d s=none
 box:∀d s cs,box? mem d s=some cs→∃b vs T fz,BoxRep P B w G d s cs b vs T fz
 inj:∀d s d' s' b,G.blk d s=some b→G.blk d' s'=some b→d=d'∧s=s'
 glob:GlobOK W0.K.gl w G.hw
structure Fr (P:Program) (w:World) (G:Gh) (d:Nat) (tmps:List AV) (t:Array Value):Prop where
 len:t.size=tmps.length
 rep:∀i,ARep P w G (.tmp d i) (nthD .any tmps i) (t.getD i undef)
def Free (G:Gh) (b:Nat):Prop:=G.own b=none∧∀d s,G.blk d s≠some b
abbrev Rest (w w':World) (G G':Gh):Prop:=∀b,b<w.heap.size→Free G b→Free G' b∧G'.hw b=G.hw b∧w'.heap[b]?=w.heap[b]?
def QnY (Ds:List Nat):List Deferred:=Ds.map fun D=>{target:= .collected D,args:= #[]}
def Mk (d:Nat) (w:World) (G:Gh) (ds:List Deferred):Prop:=G.lo d≤w.heap.size∧∃Ds,ds=QnY Ds∧Ds.Nodup∧∀D∈Ds,G.lo d≤D∧w.heap[D]?=some (.deferred (some []))∧Free G D∧G.hw D=0
theorem Mk.nil {d:Nat} {w:World} {G:Gh} (h:G.lo d≤w.heap.size):Mk d w G []:=⟨h, [],rfl,List.nodup_nil,fun _ h=>by cases h⟩
theorem Mk.of {d:Nat} {w w':World} {G G':Gh} {ds:List Deferred} (m:Mk d w G ds) (R:Rest w w' G G') (hl:G'.lo d=G.lo d:=by rfl) (hs:w.heap.size≤w'.heap.size:=by first|exact Nat.le_refl _|simp):Mk d w' G' ds:=by
 obtain ⟨h0,Ds,h1,h2,h3⟩:=m
 refine ⟨by rw [hl];exact Nat.le_trans h0 hs,Ds,h1,h2,fun D hD=> ?_⟩
 obtain ⟨q0,q1,q2,q3⟩:=h3 D hD
 obtain ⟨r1,r2,r3⟩:=R D (Array.getElem?_eq_some_iff.1 q1).1 q2
 exact ⟨by rw [hl];exact q0,by rw [r3];exact q1,r1,r2.trans q3⟩
structure Sim (P:Program) (B:Nat) (W0:Base) (d:Nat) (σ:St) (a:Act) (w:World) (G:Gh):Prop where
 mem:Mem P B W0 w G σ.mem
 depth:σ.mem.length=d+1
 fr:Fr P w G d σ.tmps a.tmps
 cfg:σ.K=W0.K
 marks:Mk d w G a.defers
structure Keeps (B d:Nat) (w w':World) (G G':Gh):Prop where
 keep:Keep w w' G.hw G'.hw
 own:∀b d' i,d'<d→G.own b=some (.tmp d' i)→G'.own b=some (.tmp d' i)∧G'.hw b=G.hw b∧w'.heap[b]?=w.heap[b]?
 blk:∀d' s b,d'<d→G.blk d' s=some b→G'.blk d' s=some b
 below:Below B w w'
 low:∀b,b<B→G'.hw b=G.hw b
 rest:Rest w w' G G'
 lo:∀d',d'≤d→G'.lo d'=G.lo d'
theorem Keeps.refl (B d:Nat) (w:World) (G:Gh):Keeps B d w w G G:=
 ⟨Keep.refl _ _,fun _ _ _ _ h=>⟨h,rfl,rfl⟩,fun _ _ _ _ h=>h,Below.refl _ _,fun _ _=>rfl,fun _ _ h=>⟨h,rfl,rfl⟩,fun _ _=>rfl⟩
theorem Keeps.trans {B d:Nat} {a b c:World} {G H I:Gh} (x:Keeps B d a b G H) (y:Keeps B d b c H I):Keeps B d a c G I:=by
 refine ⟨x.keep.trans y.keep,fun k d' i hd h=> ?_,fun d' s b hd h=>y.blk d' s b hd (x.blk d' s b hd h),x.below.trans y.below,fun k hk=>(y.low k hk).trans (x.low k hk),fun k hk h=> ?_,fun d' hd=>(y.lo d' hd).trans (x.lo d' hd)⟩
 case refine_2=>
  obtain ⟨h1,h2,h3⟩:=x.rest k hk h
  obtain ⟨h4,h5,h6⟩:=y.rest k (Nat.lt_of_lt_of_le hk x.below.size) h1
  exact ⟨h4,h5.trans h2,h6.trans h3⟩
 obtain ⟨h1,h2,h3⟩:=x.own k d' i hd h
 obtain ⟨h4,h5,h6⟩:=y.own k d' i hd h1
 exact ⟨h4,h5.trans h2,h6.trans h3⟩
theorem Keeps.mono {B d d':Nat} {w w':World} {G G':Gh} (x:Keeps B d w w' G G') (h:d'≤d):Keeps B d' w w' G G':=
 ⟨x.keep,fun b e i he hb=>x.own b e i (by omega) hb,fun e s b he=>x.blk e s b (by omega),x.below,x.low,x.rest,fun e he=>x.lo e (by omega)⟩
structure KeepsP (B d:Nat) (w w':World) (G G':Gh):Prop where
 below:Below B w w'
 rest:Rest w w' G G'
 lo:∀d',d'≤d→G'.lo d'=G.lo d'
theorem Keeps.pan {B d:Nat} {w w':World} {G G':Gh} (x:Keeps B d w w' G G'):KeepsP B d w w' G G':=⟨x.below,x.rest,x.lo⟩
theorem Keeps.transP {B d:Nat} {a b c:World} {G H I:Gh} (x:Keeps B d a b G H) (y:KeepsP B d b c H I):KeepsP B d a c G I:=
 ⟨x.below.trans y.below,fun k hk h=>by
  obtain ⟨h1,h2,h3⟩:=x.rest k hk h
  obtain ⟨h4,h5,h6⟩:=y.rest k (Nat.lt_of_lt_of_le hk x.below.size) h1
  exact ⟨h4,h5.trans h2,h6.trans h3⟩,fun d' hd=>(y.lo d' hd).trans (x.lo d' hd)⟩
theorem KeepsP.mono {B d d':Nat} {w w':World} {G G':Gh} (x:KeepsP B d w w' G G') (h:d'≤d):KeepsP B d' w w' G G':=⟨x.below,x.rest,fun e he=>x.lo e (by omega)⟩
def PanQ (ZZ:List PanicEntry→Prop) (B d:Nat) (w:World) (G:Gh) (Q:Exit→Act→World→Prop):Prop:=
 ∀ch a' w' G',ZZ ch→Mk d w' G' a'.defers→KeepsP B d w w' G G'→Q (.panic ch) a' w'
theorem PanQ.trans {ZZ:List PanicEntry→Prop} {B d:Nat} {w w':World} {G G':Gh} {Q:Exit→Act→World→Prop} (h:PanQ ZZ B d w G Q) (K:Keeps B d w w' G G'):PanQ ZZ B d w' G' Q:=
 fun ch a x H z m k=>h ch a x H z m (K.transP k)
theorem Mem.noNone {B:Nat} {W0:Base} {w:World} {G:Gh} {mem:MemT} (M:Mem P B W0 w G mem) (b:Nat):G.own b≠some .none:=fun h=>(M.own b _ h).2.2 rfl
theorem Mem.blk_box {B:Nat} {W0:Base} {w:World} {G:Gh} {mem:MemT} (M:Mem P B W0 w G mem) {d s b:Nat} (h:G.blk d s=some b):
  ∃cs vs T fz,box? mem d s=some cs∧BoxRep P B w G d s cs b vs T fz:=by
 cases hb:box? mem d s with
 |none=>rw [M.blk d s hb] at h;cases h
 |some cs=>
  obtain ⟨b',vs,T,fz,hr⟩:=M.box d s cs hb
  have:=hr.blk.symm.trans h
  simp at this
  subst this
  exact ⟨cs,vs,T,fz,rfl,hr⟩
theorem M.exec_bind {α β γ:Type} {call:FuncId→List CV→Option CV} {σ:St} {f:α→M β} {k:β→List Loc→Option γ}:
  ∀(m:M α) (acc:List Loc),(m.bind f).exec call σ acc k=m.exec call σ acc fun a acc'=>(f a).exec call σ acc' k
 | .ret a,acc=>rfl
 | .get l g,acc=>by simp only [M.bind,M.exec];rw [M.exec_bind (g (σ.get l))]
 | .free d s m,acc=>by simp only [M.bind,M.exec];rw [M.exec_bind m]
 | .chk b m,acc=>by simp only [M.bind,M.exec];rw [M.exec_bind m]
 | .br b t e,acc=>by simp only [M.bind,M.exec];rw [M.exec_bind t,M.exec_bind e]
 | .opt o g,acc=>by
  simp only [M.bind,M.exec]
  cases o with
  |none=>rfl
  |some x=>simp only [optO];exact M.exec_bind (g x) _
 | .call h as g,acc=>by
  simp only [M.bind,M.exec]
  cases call h as with
  |none=>rfl
  |some x=>simp only [optO];exact M.exec_bind (g x) _
 | .fail,acc=>rfl
theorem M.exec_bind' {α β γ:Type} {call:FuncId→List CV→Option CV} {σ:St} {f:α→M β} {k:β→List Loc→Option γ} (m:M α) (acc:List Loc):
  (m>>=f).exec call σ acc k=m.exec call σ acc fun a acc'=>(f a).exec call σ acc' k:=M.exec_bind m acc
theorem Qaf {β:Type} {b:Bool} {k:Option β} {r:β} (h:chkO b k=some r):b=true∧k=some r:=by
 cases b<;>simp [chkO] at h⊢;exact h
theorem Qag {α β:Type} {o:Option α} {k:α→Option β} {r:β} (h:optO o k=some r):∃x,o=some x∧k x=some r:=by
 cases o with
 |none=>simp [optO] at h
 |some x=>exact ⟨x,rfl,h⟩
end Go.Am
namespace Go.Am
open Go.RowKit
variable {P:Program} {B:Nat} {W0:Base} {d:Nat} {σ:St} {a:Act} {w:World} {G:Gh}
theorem CV.ofValue_rep {w:World} {h:Hw}:∀{v:Value} {c:CV},CV.ofValue v=some c→CRep w h c v∧v.oneCell'=true
 | .bool b,c,e=>by simp [CV.ofValue] at e;subst e;simp [CRep,Value.oneCell']
 | .int k n,c,e=>by simp [CV.ofValue] at e;subst e;simp [CRep,Value.oneCell']
 | .string s,c,e=>by simp [CV.ofValue] at e;subst e;simp [CRep,Value.oneCell']
 | .slice none 0 0,c,e=>by simp [CV.ofValue] at e;subst e;simp [CRep,Value.oneCell']
 | .slice none 0 (_+1),c,e=>by simp [CV.ofValue] at e
 | .slice none (_+1) _,c,e=>by simp [CV.ofValue] at e
 | .slice (some _) _ _,c,e=>by simp [CV.ofValue] at e
 | .pointer none,c,e=>by simp [CV.ofValue] at e;subst e;simp [CRep,Value.oneCell']
 | .pointer (some _),c,e=>by simp [CV.ofValue] at e
 | .nilFunc,c,e=>by simp [CV.ofValue] at e;subst e;simp [CRep,Value.oneCell']
 | .func g first captured,c,e=>by
  cases g<;>simp [CV.ofValue] at e
  obtain ⟨⟨h1,h2⟩,rfl⟩:=e
  simp [CRep,Value.oneCell',h1,h2]
 | .float ..,c,e=>by simp [CV.ofValue] at e
 | .complex ..,c,e=>by simp [CV.ofValue] at e
 | .map ..,c,e=>by simp [CV.ofValue] at e
 | .chan ..,c,e=>by simp [CV.ofValue] at e
 | .iface ..,c,e=>by simp [CV.ofValue] at e
 | .nilIface,c,e=>by simp [CV.ofValue] at e;subst e;simp [CRep,Value.oneCell']
 | .agg ..,c,e=>by simp [CV.ofValue] at e
 | .tuple ..,c,e=>by simp [CV.ofValue] at e
theorem CV.ofValues_rep {w:World} {h:Hw}:∀{vs:List Value} {cs:List CV},CV.ofValues vs=some cs→CRepV w h cs vs∧CRepT w h cs vs
 | [],cs,e=>by simp [CV.ofValues] at e;subst e;simp [CRepV,CRepT]
 |v::vs,cs,e=>by
  simp only [CV.ofValues] at e
  split at e
  ·rename_i x xs h1 h2
   simp at e
   subst e
   have hx:=CV.ofValue_rep (w:=w) (h:=h) h1
   have hr:=CV.ofValues_rep (w:=w) (h:=h) h2
   exact ⟨by simp only [CRepV];exact ⟨v,vs,rfl,hx.2,hx.1,hr.1⟩,by simp only [CRepT];exact ⟨v,vs,rfl,hx.1,hr.2⟩⟩
  ·simp at e
theorem AV.ofConst_rep (w:World) (G:Gh) (p:Place) (v:Value):ARep P w G p (AV.ofConst v) v:=by
 cases v with
 |agg cs=>
  simp only [AV.ofConst]
  split
  ·rename_i xs h1
   simp only [ARep,CRep]
   exact ⟨cs.toList,by simp,(CV.ofValues_rep h1).1⟩
  ·simp [ARep]
 |tuple cs=>
  simp only [AV.ofConst]
  split
  ·rename_i xs h1
   simp only [ARep,CRep]
   exact ⟨cs.toList,by simp,(CV.ofValues_rep h1).2⟩
  ·simp [ARep]
 |_=>
  simp only [AV.ofConst]
  split
  ·rename_i x h1
   simp only [ARep]
   exact (CV.ofValue_rep h1).1
  ·simp [ARep]
def QcF (d:Nat):Operand→Place
 | .tmp t=> .tmp d t
 |_=> .none
theorem Qvx (S:Sim P B W0 d σ a w G) (g:Nat) {p:Place}:ARep P w G p (σ.get (.glob g)) (.pointer (some ⟨g,0,none⟩)):=by
 simp only [St.get]
 split
 ·rename_i c hc
  rw [S.cfg] at hc
  obtain ⟨h1,h2⟩:=S.mem.glob g c hc
  simp only [ARep]
  exact ⟨g,0,rfl,by omega,h2⟩
 ·simp [ARep]
theorem QaC (S:Sim P B W0 d σ a w G) {β:Type} {call:FuncId→List CV→Option CV} (x:Operand) {acc:List Loc} {k:AV→List Loc→Option β} {r:β}
  (h:(opd x).exec call σ acc k=some r):∃v acc',k v acc'=some r∧ARep P w G (QcF d x) v (a.eval x):=by
 cases x with
 |tmp t=>exact ⟨_,_,(Qaf h).2,(S.fr.rep t).shown⟩
 |const v=>exact ⟨_,_,h,AV.ofConst_rep w G _ v⟩
 |func f=>exact ⟨_,_,h,by simp [ARep,CRep,Act.eval]⟩
 |_=>exact ⟨_,_,(Qaf h).2,Qvx S _⟩
theorem QfN (S:Sim P B W0 d σ a w G) {β:Type} {call:FuncId→List CV→Option CV} (t:TypeId) (x:Operand) {acc:List Loc} {k:AV→List Loc→Option β} {r:β}
  (h:(opdT P t x).exec call σ acc k=some r):∃v acc',k v acc'=some r∧ARep P w G (QcF d x) v (a.eval x):=by
 unfold opdT at h
 split at h
 ·split at h
  ·exact ⟨_,_,h,by simp [ARep,Act.eval]⟩
  ·exact QaC S _ h
 ·exact QaC S _ h
theorem QaH {β:Type} {call:FuncId→List CV→Option CV} {p:Place} {v:AV} {x:Value} (hv:ARep P w G p v x) {acc:List Loc} {k:CV→List Loc→Option β} {r:β}
  (h:v.cv.exec call σ acc k=some r):∃c,k c acc=some r∧CRep w G.hw c x:=by
 cases v with
 |val c=>exact ⟨c,h,by simpa [ARep] using hv⟩
 |lst own n e l=>exact ⟨_,h,hv.list⟩
 |_=>simp [AV.cv,M.exec] at h
theorem QbW {k:IntKind} {c:CV} {n:Int} (h:c.asI k=some n):c= .int k n:=by
 cases c<;>simp [CV.asI] at h
 obtain ⟨rfl,rfl⟩:=h;rfl
theorem QgE {c:CV} {n:Int} (h:c.asN=some n):∃k,c= .int k n:=by
 cases c<;>simp [CV.asN] at h
 subst h;exact ⟨_,rfl⟩
theorem Qea {c:CV} {b:Bool} (h:c.asB=some b):c= .bool b:=by
 cases c<;>simp [CV.asB] at h;rw [h]
theorem QcU {c:CV} {s:List UInt8} (h:c.asS=some s):c= .str s:=by
 cases c<;>simp [CV.asS] at h;rw [h]
theorem Qfq {c:CV} {p:Bool×List (List CV)} (h:c.asL=some p):c= .list p.1 p.2:=by
 cases c<;>simp [CV.asL] at h;subst h;rfl
theorem Qph {c:CV} {s:List CV} (h:c.asA=some s):c= .agg s:=by
 cases c<;>simp [CV.asA] at h;rw [h]
theorem QxA {c:CV} {s:List CV} (h:c.asT=some s):c= .tup s:=by
 cases c<;>simp [CV.asT] at h;rw [h]
theorem Qpc {c:CV} {f:FuncId} (h:c.asF=some f):c= .fn f:=by
 cases c<;>simp [CV.asF] at h;rw [h]
theorem Fr.set {tmps:List AV} {t:Array Value} (F:Fr P w G d tmps t) {i:Nat} {v:AV} {x:Value} (hv:ARep P w G (.tmp d i) v x):
  Fr P w G d (setN tmps i v) (t.setIfInBounds i x):=by
 refine ⟨by simp [QaK,F.len],fun j=> ?_⟩
 rw [QaL]
 have hl:=F.len
 by_cases hj:j=i
 ·subst hj
  by_cases hi:j<tmps.length
  ·simp only [hi,and_self,if_true]
   have:(t.setIfInBounds j x).getD j undef=x:=by simp [Array.getD,hl,hi]
   rw [this];exact hv
  ·simp only [hi,and_false,if_false]
   have:(t.setIfInBounds j x)=t:=by simp [Array.setIfInBounds,hl,hi]
   rw [this];exact F.rep j
 ·simp only [hj,false_and,if_false]
  have:(t.setIfInBounds i x).getD j undef=t.getD j undef:=by
   simp only [Array.getD_eq_getD_getElem?,Array.getElem?_setIfInBounds]
   rw [if_neg (fun e=>hj e.symm)]
  rw [this];exact F.rep j
theorem Fr.weaken {tmps:List AV} {t:Array Value} (F:Fr P w G d tmps t) {i:Nat} {v:AV} (hv:ARep P w G (.tmp d i) v (t.getD i undef)):
  Fr P w G d (setN tmps i v) t:=by
 refine ⟨by simp [QaK,F.len],fun j=> ?_⟩
 rw [QaL]
 by_cases hj:j=i∧i<tmps.length
 ·rw [if_pos hj,hj.1];exact hv
 ·rw [if_neg hj];exact F.rep j
theorem Sim.setTmp (S:Sim P B W0 d σ a w G) {i:Nat} {v:AV} {x:Value} (hv:ARep P w G (.tmp d i) v x):
  Sim P B W0 d {σ with tmps:=setN σ.tmps i v} (a.put (some i) x) w G:=
 ⟨S.mem,S.depth,S.fr.set hv,S.cfg,S.marks⟩
theorem Sim.weaken (S:Sim P B W0 d σ a w G) {i:Nat} {v:AV} (hv:ARep P w G (.tmp d i) v (a.tmps.getD i undef)):
  Sim P B W0 d {σ with tmps:=setN σ.tmps i v} a w G:=
 ⟨S.mem,S.depth,S.fr.weaken hv,S.cfg,S.marks⟩
theorem Sim.put (S:Sim P B W0 d σ a w G) (o:Oper) {v:AV} {x:Value} (hv:∀t,o.dst=some t→ARep P w G (.tmp d t) v x):
  Sim P B W0 d (Qau σ (put o v)) (a.put o.dst x) w G:=by
 cases h:o.dst with
 |none=>simpa [Am.put,h,Qau,Act.put] using S
 |some t=>simpa [Am.put,h,Qau,W.apply] using S.setTmp (hv t h)
def Gh.move (G:Gh) (b:Nat) (q:Place):Gh:={G with own:=fun k=>if k=b then some q else G.own k}
theorem QcM {p q r:Place} {b:Nat} (h:G.own b=some p) (hr:r≠p):Same r w w G (G.move b q):=by
 refine ⟨Keep.refl _ _,fun _ _ _ h=>h,fun k hk=>⟨?_,rfl,rfl⟩⟩
 have:k≠b:=fun e=>by subst e;rw [h] at hk;exact hr (Option.some.inj hk).symm
 simp [Gh.move,this,hk]
theorem QkF {p q:Place} {b:Nat} (h:G.own b=some p):Rest w w G (G.move b q):=fun k _ hk=>⟨⟨by
 have:k≠b:=fun e=>by subst e;have:=hk.1;rw [h] at this;cases this
 simp [Gh.move,this,hk.1],hk.2⟩,rfl,rfl⟩
theorem Mem.move {mem:MemT} (M:Mem P B W0 w G mem) {p q:Place} {b:Nat} (h:G.own b=some p) (hq:q≠ .none) (hp:∀d s o,p≠ .cell d s o):Mem P B W0 w (G.move b q) mem:=by
 refine ⟨M.below,M.base,fun k r hk=> ?_,M.hw,M.blk,fun d s cs hb=> ?_,M.inj,M.glob⟩
 ·by_cases e:k=b
  ·subst e
   simp [Gh.move] at hk
   subst hk
   have:=M.own k p h
   exact ⟨this.1,this.2.1,hq⟩
  ·simp [Gh.move,e] at hk
   exact M.own k r hk
 ·obtain ⟨b',vs,T,fz,R⟩:=M.box d s cs hb
  refine ⟨b',vs,T,fz,R.blk,R.lo,R.heap,R.free,R.hw, ?_,⟨R.rep.len,fun o ho=> ?_⟩⟩
  ·have:b'≠b:=fun e=>by subst e;have:=R.own;simp [h] at this
   simp [Gh.move,this,R.own]
  ·obtain ⟨v,h1,h2,h3⟩:=R.rep.rep o ho
   exact ⟨v,h1,h2,ARep.same (QcM h (fun e=>hp d s o e.symm)) (QcM h (fun e=>M.noNone b (e▸h))) _ h3⟩
theorem Keeps.move {p q:Place} {b:Nat} (h:G.own b=some p) (hp:∀d' i,d'<d→p≠ .tmp d' i):Keeps B d w w G (G.move b q):=by
 refine ⟨Keep.refl _ _,fun k d' i hd hk=>⟨?_,rfl,rfl⟩,fun _ _ _ _ h=>h,Below.refl _ _,fun _ _=>rfl,fun k _ hk=>⟨⟨?_,hk.2⟩,rfl,rfl⟩,fun _ _=>rfl⟩
 case refine_2=>
  have:k≠b:=fun e=>by subst e;have:=hk.1;rw [h] at this;cases this
  simp [Gh.move,this,hk.1]
 have:k≠b:=fun e=>by subst e;rw [h] at hk;exact hp d' i hd (Option.some.inj hk)
 simp [Gh.move,this,hk]
theorem ARep.ofNone (hn:∀b,G.own b≠some .none) {q:Place} {v:AV} {x:Value} (hv:ARep P w G .none v x):ARep P w G q v x:=by
 cases v with
 |any=>simp [ARep]
 |lst own n e l=>
  simp only [ARep] at hv⊢
  rcases hv with hv|⟨g1,b,off,cap,g2,g3,g4,g5,g6,g7⟩
  ·exact .inl hv
  ·refine .inr ⟨g1,b,off,cap,g2,g3,g4,g5,g6, ?_⟩
   rcases g7 with g7|⟨_,g7⟩
   ·exact .inl g7
   ·exact (hn b g7.1).elim
 |siter s pos=>
  simp only [ARep] at hv
  obtain ⟨b,_,h,_⟩:=hv
  exact (hn b h).elim
 |bld T=>
  simp only [ARep] at hv
  obtain ⟨_,_,_,h,_⟩:=hv
  cases h
 |row e l=>simp [ARep] at hv
 |_=>simpa only [ARep] using hv
theorem Sim.handOn (S:Sim P B W0 d σ a w G) (o:Oper) (x:Operand) {v:AV} (hv:ARep P w G (QcF d x) v (a.eval x)):
  ∃G',Sim P B W0 d (Qau σ (handOn o x v)) (a.put o.dst (a.eval x)) w G'∧Keeps B d w w G G':=by
 have plainly:v.isOwn=false→∃G',Sim P B W0 d (Qau σ (Am.put o v.shown)) (a.put o.dst (a.eval x)) w G'∧Keeps B d w w G G':=by
  intro hn
  refine ⟨G,S.put o fun t ht=> ?_,Keeps.refl _ _ _ _⟩
  have h1:=hv.copy (q:= .tmp d t)
  have:v.copy=v.shown:=by
   cases v with
   |lst own n e l=>cases own<;>simp [AV.isOwn,AV.copy,AV.shown] at hn⊢
   |_=>rfl
  rwa [this] at h1
 cases x with
 |tmp t=>
  simp only [Am.handOn]
  by_cases hc:(v.isOwn&&o.dst !=some t)=true
  ·rw [if_pos hc]
   simp only [Bool.and_eq_true,bne_iff_ne,ne_eq] at hc
   obtain ⟨h1,h2⟩:=hc
   cases v with
   |lst own n e l=>
    cases own with
    |false=>simp [AV.isOwn] at h1
    |true=>
     have hcopy:ARep P w G (.tmp d t) (AV.copy (.lst true n e l)) (a.tmps.getD t undef):=by
      have:=hv.copy (q:= .tmp d t)
      simpa [Act.eval] using this
     have S1:=S.weaken hcopy
     cases hd:o.dst with
     |none=>exact ⟨G,by simpa [Am.put,hd,Qau,W.apply,Act.put] using S1,Keeps.refl _ _ _ _⟩
     |some u=>
      have hut:u≠t:=fun e=>h2 (by rw [hd,e])
      simp only [Am.put,hd,Qau,W.apply]
      have hv0:=hv
      simp only [ARep] at hv
      rcases hv with hv|⟨g1,b,off,cap,g2,g3,g4,g5,g6,g7⟩
      ·exact ⟨G,S1.setTmp (by simp only [ARep];exact .inl hv),Keeps.refl _ _ _ _⟩
      ·rcases g7 with g7|⟨_,g7⟩
       ·exact ⟨G,S1.setTmp (by simp only [ARep];exact .inr ⟨g1,b,off,cap,g2,g3,g4,g5,g6, .inl g7⟩),Keeps.refl _ _ _ _⟩
       ·have hown:G.own b=some (.tmp d t):=g7.1
        refine ⟨G.move b (.tmp d u), ?_,Keeps.move hown (fun d' i hd e=>by simp at e;omega)⟩
        have M2:=S1.mem.move (q:= .tmp d u) hown (by simp) (by simp)
        have N2:=QcM (w:=w) (q:= .tmp d u) (r:= .none) hown (by simp)
        have F2:Fr P w (G.move b (.tmp d u)) d (setN σ.tmps t (AV.copy (.lst true n e l))) a.tmps:=by
         refine ⟨S1.fr.len,fun j=> ?_⟩
         by_cases hj:j=t
         ·subst hj
          simp only [QaL]
          by_cases hlt:j<σ.tmps.length
          ·rw [if_pos (by simp [hlt])]
           simp only [AV.copy,ARep] at hcopy⊢
           exact hcopy
          ·rw [if_neg (by simp [hlt])]
           have hany:nthD AV.any σ.tmps j= .any:=by rw [Qar,List.getElem?_eq_none (by omega)];rfl
           rw [hany];simp [ARep]
         ·exact ARep.same (QcM hown (by simp [hj])) N2 _ (S1.fr.rep j)
        refine ⟨M2,S.depth,F2.set ?_,S.cfg,S.marks.of (QkF hown)⟩
        simp only [ARep]
        refine .inr ⟨g1,b,off,cap,g2,g3,g4,g5, ?_, .inr ⟨trivial, ?_⟩⟩
        ·exact CRepLL.keep (Keep.refl _ _) l (by rw [QcJ g4];exact g5) g6
        ·obtain ⟨q1,q2,q3,q4,cur,q5,q6⟩:=g7
         exact ⟨by simp [Gh.move],q2,q3,q4,cur,q5,q6⟩
   |_=>simp [AV.isOwn] at h1
  ·rw [if_neg hc]
   by_cases h1:v.isOwn=true
   ·
    have hd:o.dst=some t:=by
     simp only [h1,Bool.true_and,bne_iff_ne,ne_eq,Decidable.not_not] at hc;exact hc
    refine ⟨G,S.put o fun u hu=> ?_,Keeps.refl _ _ _ _⟩
    rw [hd] at hu;cases hu;exact hv.shown
   ·exact plainly (by simpa using h1)
 |const c=>
  simp only [Am.handOn]
  exact ⟨G,S.put o fun t ht=>ARep.ofNone S.mem.noNone hv.shown,Keeps.refl _ _ _ _⟩
 |func f=>
  simp only [Am.handOn]
  exact ⟨G,S.put o fun t ht=>ARep.ofNone S.mem.noNone hv.shown,Keeps.refl _ _ _ _⟩
 |_=>
  simp only [Am.handOn]
  exact ⟨G,S.put o fun t ht=>ARep.ofNone S.mem.noNone hv.shown,Keeps.refl _ _ _ _⟩
end Go.Am
namespace Go.Am
open Go.RowKit
variable {P:Program} {B:Nat} {W0:Base} {d:Nat} {σ:St} {a:Act} {w:World} {G:Gh} {β:Type} {call:FuncId→List CV→Option CV}
 {acc:List Loc} {r:β} {o:Oper} {ops:List Oper}
abbrev FR (ρ:Option Nat):Fence:={Fence.wide with round:=ρ}
theorem QfP {ρ:Option Nat} {ν:Nat} {f:FuncId} {args:Array Value} {w:World} {R:Ending→World→Prop} (h:Calls P f args w R):CallsIn (FR ρ) ν P f args w R:=by
 have h0:CallsIn Fence.wide ν P f args w R:=callsIn_wide.2 h
 cases ρ with
 |none=>exact h0
 |some l=>exact CallsIn.inRound l h0
theorem Qiy {w':World} {n:Next} (hn:∀d,n≠ .defer d) (h:(execOp a.eval o).run P w= .ok n w'):∀c,o.op≠ .defer c:=by
 intro c hc
 simp only [execOp,hc,Sem.run_bind] at h
 cases hr:(resolve a.eval c o.type).run P w with
 |ok x w2=>
  rw [hr] at h
  simp only [Result.andThen_ok,Sem.run_pure,Result.ok.injEq] at h
  exact hn x h.1.symm
 |halt x w2=>rw [hr] at h;simp [Result.andThen] at h
def OpDone (P:Program) (B:Nat) (W0:Base) (d:Nat) (o:Oper) (σ:St) (a:Act) (w:World) (G:Gh) (k:List W→List Loc→Option β) (r:β):Prop:=
 ∃ws rs,k ws rs=some r∧∀(ρ:Option Nat) (ν:Nat) (next:Act→World→Prop) (Q:Exit→Act→World→Prop),
  (∀a' w' G',Sim P B W0 d (Qau σ ws) a' w' G'→Keeps B d w w' G G'→next a' w')→o.wpIn (FR ρ) ν P a w next Q
theorem OpDone.value {k:List W→List Loc→Option β} {ws:List W} {rs:List Loc} {x:Value} {w':World} {G':Gh} (hk:k ws rs=some r)
  (hrun:(execOp a.eval o).run P w= .ok (.value x) w') (S':Sim P B W0 d (Qau σ ws) (a.put o.dst x) w' G') (K:Keeps B d w w' G G'):OpDone P B W0 d o σ a w G k r:=
 ⟨ws,rs,hk,fun ρ ν next Q hn=>⟨fun _ _=>trivial,by rw [Oper.semAt_eq _ _ _ (Qiy (fun _ h=>by cases h) hrun),hrun];exact hn _ _ _ S' K⟩⟩
theorem OpDone.pure {k:List W→List Loc→Option β} {rs:List Loc} {x:Value} {v:AV} (S:Sim P B W0 d σ a w G) (hk:k (put o v) rs=some r)
  (hrun:(execOp a.eval o).run P w= .ok (.value x) w) (hv:∀t,o.dst=some t→ARep P w G (.tmp d t) v x):OpDone P B W0 d o σ a w G k r:=
 OpDone.value hk hrun (S.put o hv) (Keeps.refl _ _ _ _)
theorem QyY (S:Sim P B W0 d σ a w G) {x:Operand} (ho:o.op= .move x) {k:List W→List Loc→Option β} (h:(opM P d ops o).exec call σ acc k=some r):OpDone P B W0 d o σ a w G k r:=by
 unfold opM at h
 rw [ho] at h
 simp only [M.exec_bind'] at h
 obtain ⟨v,acc',h,hv⟩:=QfN S _ _ h
 have hrun:(execOp a.eval o).run P w= .ok (.value (a.eval x)) w:=by simp [execOp,ho]
 split at h
 ·obtain ⟨G',S',K⟩:=S.handOn o x hv
  exact OpDone.value h hrun S' K
 ·exact OpDone.pure S h hrun fun t _=>hv.copy
theorem Qwm (S:Sim P B W0 d σ a w G) {x:Operand} (ho:o.op= .assign x) {k:List W→List Loc→Option β} (h:(opM P d ops o).exec call σ acc k=some r):OpDone P B W0 d o σ a w G k r:=by
 unfold opM at h
 rw [ho] at h
 simp only [M.exec_bind'] at h
 obtain ⟨v,acc',h,hv⟩:=QfN S _ _ h
 obtain ⟨G',S',K⟩:=S.handOn o x hv
 exact OpDone.value h (by simp [execOp,ho]) S' K
theorem Qzb (S:Sim P B W0 d σ a w G) {c x y:Operand} (ho:o.op= .pick c x y) {k:List W→List Loc→Option β} (h:(opM P d ops o).exec call σ acc k=some r):OpDone P B W0 d o σ a w G k r:=by
 unfold opM at h
 rw [ho] at h
 simp only [M.exec_bind'] at h
 obtain ⟨v,acc',h,hv⟩:=QaC S _ h
 obtain ⟨b,h,hb⟩:=QaH hv h
 obtain ⟨u,acc',h,hu⟩:=QaC S _ h
 obtain ⟨z,acc',h,hz⟩:=QaC S _ h
 simp only [M.exec] at h
 obtain ⟨t,ht,h⟩:=Qag h
 rw [Qea ht] at hb
 simp only [CRep] at hb
 cases t with
 |true=>
  simp only [cond_true] at h
  exact OpDone.pure S (x:=a.eval x) h (by simp [execOp,ho,hb,asBool]) fun t _=>hu.copy
 |false=>
  simp only [cond_false] at h
  exact OpDone.pure S (x:=a.eval y) h (by simp [execOp,ho,hb,asBool]) fun t _=>hz.copy
theorem Qc5 (op:BinOp) (t:TypeId) (x y:Operand) {u v:Value} (h1:u≠ .nilIface) (h2:∀c,u≠ .agg c):(eqGuard op t x y u v).run P w= .ok () w:=by
 cases op<;>cases u<;>first|rfl|exact absurd rfl h1|exact absurd rfl (h2 _)
theorem Qs5 {op:BinOp} {k:IntKind} {x y:Int} {t:TypeId} {f:CV→List Loc→Option β} (h1:op≠ .shl) (h2:op≠ .shr) (h:(Qt2 op k x y).exec call σ acc f=some r):
  ∃c v,f c acc=some r∧(∀w' hw,CRep w' hw c v)∧(binOp op t (.int k x) (.int k y)).run P w= .ok v w:=by
 cases op<;>simp only [Qt2,M.exec,reduceCtorEq] at h
 case quo=>
  obtain ⟨hb,h⟩:=Qaf h
  refine ⟨_,_,h,fun _ _=>by simp only [CRep];rfl, ?_⟩
  have:y≠0:=by simpa using hb
  simp [binOp,Op.intDiv,this]
 case rem=>
  obtain ⟨hb,h⟩:=Qaf h
  refine ⟨_,_,h,fun _ _=>by simp only [CRep];rfl, ?_⟩
  have:y≠0:=by simpa using hb
  simp [binOp,Op.intDiv,this]
 all_goals
  first
   |exact absurd rfl h1
   |exact absurd rfl h2
   | (refine ⟨_,_,h,fun _ _=>by simp only [CRep];rfl, ?_⟩
      simp [binOp,Op.intArith,Op.intBits,Op.intCmp])
theorem Qua {op:BinOp} {x y:List UInt8} {t:TypeId} {f:CV→List Loc→Option β} (h:(Qt3 op x y).exec call σ acc f=some r):
  ∃c v,f c acc=some r∧(∀w' hw,CRep w' hw c v)∧(binOp op t (.string ⟨x.toArray⟩) (.string ⟨y.toArray⟩)).run P w= .ok v w:=by
 cases op<;>simp only [Qt3,M.exec,reduceCtorEq] at h
 case add=>
  obtain ⟨hb,h⟩:=Qaf h
  refine ⟨_,_,h,fun _ _=>by simp only [CRep];rfl, ?_⟩
  have hb:x.length+y.length≤9223372036854775807:=by simpa using hb
  have e:¬(((x.length+y.length:Nat):Int)>IntKind.i64.max):=by
   have:IntKind.i64.max=9223372036854775807:=by decide
   rw [this];omega
  have e1:(⟨x.toArray⟩:ByteArray).size=x.length:=by simp [ByteArray.size]
  have e2:(⟨y.toArray⟩:ByteArray).size=y.length:=by simp [ByteArray.size]
  have e3:(⟨x.toArray⟩:ByteArray)++⟨y.toArray⟩=⟨(x++y).toArray⟩:=by
   apply ByteArray.ext
   simp
  simp only [binOp,Op.stringOp,e1,e2,e3]
  rw [if_neg e];rfl
 all_goals
  (refine ⟨_,_,h,fun _ _=>by simp only [CRep];rfl, ?_⟩
   simp [binOp,Op.stringOp])
theorem QvH {op:BinOp} {b:Bool} {f:CV→List Loc→Option β} (h:(eqOp op b).exec call σ acc f=some r):
  (op= .eql∧f (.bool b) acc=some r)∨(op= .neq∧f (.bool !b) acc=some r):=by
 cases op<;>simp only [eqOp,M.exec,reduceCtorEq] at h
 ·exact .inl ⟨rfl,h⟩
 ·exact .inr ⟨rfl,h⟩
theorem QgB (t:TypeId) (x y:Value):Op.equal t x y=Op.equalIn (9999+1) t x y:=rfl
theorem Qre {t:TypeId} (ht:P.underlying t=some .bool) (x y:Bool):(Op.equal t (.bool x) (.bool y)).run P w= .ok (x==y) w:=by
 rw [QgB];exact run_equalIn_bool' w _ t x y ht
theorem QqI {t e:TypeId} (ht:P.underlying t=some (.slice e)) {x y:Option Addr} {n c n' c':Nat} (h:x=none∨y=none):
  (Op.equal t (.slice x n c) (.slice y n' c')).run P w= .ok (x.isNone&&y.isNone) w:=by
 rw [QgB]
 generalize 9999=D
 rcases h with rfl|rfl
 ·simp [Op.equalIn,run_underlying ht]
 ·cases x<;>simp [Op.equalIn,run_underlying ht]
theorem Qog {t e:TypeId} (ht:P.underlying t=some (.pointer e)) {x y:Option Addr} (h:x=none∨y=none):
  (Op.equal t (.pointer x) (.pointer y)).run P w= .ok (x.isNone&&y.isNone) w:=by
 rw [QgB]
 generalize 9999=D
 rcases h with rfl|rfl
 ·simp [Op.equalIn,run_underlying ht]
 ·cases x<;>simp [Op.equalIn,run_underlying ht]
theorem QsK {t:TypeId} {ms:Array (String×TypeId)} (ht:P.underlying t=some (.interface ms)):(Op.equal t .nilIface .nilIface).run P w= .ok true w:=by
 rw [QgB];generalize 9999=d;simp [Op.equalIn,run_underlying ht]
theorem QsH {t:TypeId} {ms:Array (String×TypeId)} (ht:P.underlying t=some (.interface ms)) (ty:TypeId) (z:Value):(Op.equal t .nilIface (.iface ty z)).run P w= .ok false w:=by
 rw [QgB];generalize 9999=d;simp [Op.equalIn,run_underlying ht]
theorem QsP {t:TypeId} {ms:Array (String×TypeId)} (ht:P.underlying t=some (.interface ms)) (ty:TypeId) (z:Value):(Op.equal t (.iface ty z) .nilIface).run P w= .ok false w:=by
 rw [QgB];generalize 9999=d;simp [Op.equalIn,run_underlying ht]
theorem Qr8 {c:CV} {p:Bool} (h:c.asNF=some p):(p=true∧c= .nilfn)∨(p=false∧∃f,c= .fn f):=by
 cases c<;>simp [CV.asNF] at h
 ·exact .inr ⟨h.symm▸rfl,_,rfl⟩
 ·exact .inl ⟨h.symm▸rfl,rfl⟩
def QnH:Value→Bool| .nilFunc=>true|_=>false
theorem QqV {t:TypeId} {ps rs:Array TypeId} {v:Bool} (ht:P.underlying t=some (.func ps rs v)) {x y:Value}
  (h:(x= .nilFunc∧(y= .nilFunc∨∃f p q,y= .func f p q))∨(y= .nilFunc∧∃f p q,x= .func f p q)):
  (Op.equal t x y).run P w= .ok (QnH x&&QnH y) w:=by
 rw [QgB]
 generalize 9999=D
 rcases h with ⟨rfl,rfl|⟨f,p,q,rfl⟩⟩|⟨rfl,f,p,q,rfl⟩<;>simp [Op.equalIn,run_underlying ht,QnH]
theorem Qfp {t:TypeId} {x y:Value} {b:Bool} {op:BinOp} (h:(Op.equal t x y).run P w= .ok b w)
  (h1:binOp .eql t x y=(do pure (.bool (←Op.equal t x y)))) (h2:binOp .neq t x y=(do pure (.bool (!(←Op.equal t x y)))))
  {f:CV→List Loc→Option β} (hh:(eqOp op b).exec call σ acc f=some r):
  ∃c v,f c acc=some r∧(∀w' hw,CRep w' hw c v)∧(binOp op t x y).run P w= .ok v w:=by
 rcases QvH hh with ⟨rfl,hh⟩|⟨rfl,hh⟩
 ·exact ⟨_, .bool b,hh,fun _ _=>by simp only [CRep],by rw [h1];simp [h]⟩
 ·exact ⟨_, .bool !b,hh,fun _ _=>by simp only [CRep],by rw [h2];simp [h]⟩
theorem Qms {op:BinOp} {k k':IntKind} {x y:Int} {t:TypeId} {f:CV→List Loc→Option β} (h:(QrH op k x y).exec call σ acc f=some r):
  ∃c v,f c acc=some r∧(∀w' hw,CRep w' hw c v)∧(binOp op t (.int k x) (.int k' y)).run P w= .ok v w:=by
 cases op<;>simp only [QrH,M.exec,reduceCtorEq] at h
 all_goals
  obtain ⟨hb,h⟩:=Qaf h
  have hb:¬y<0:=by
   have:0≤y:=by simpa using hb
   omega
  refine ⟨_,_,h,fun _ _=>by simp only [CRep];rfl, ?_⟩
  simp [binOp,Op.shift,hb]
theorem ARepL.get {w:World} {G:Gh}:∀{cs:List AV} {vs:List Value},ARepL P w G cs vs→∀{i:Nat},i<cs.length→
  ∃v,vs[i]?=some v∧ARep P w G .none (nthD .any cs i) v
 | [],_,_,i,hi=>by simp at hi
 |x::r,vs,hx,i,hi=>by
  simp only [ARepL] at hx
  obtain ⟨v,s,rfl,h3,h4⟩:=hx
  cases i with
  |zero=>exact ⟨v,by simp,by simpa [nthD] using h3⟩
  |succ i=>
   obtain ⟨u,h1,h2⟩:=ARepL.get h4 (i:=i) (by simpa using hi)
   exact ⟨u,by simpa using h1,by simpa [nthD] using h2⟩
theorem CRep.slice_nil {w:World} {h:Hw} {n:Bool} {l:List (List CV)} {v:Value} (x:CRep w h (.list n l) v):∃a len cap,v= .slice a len cap∧n=a.isNone:=by
 simp only [CRep] at x
 rcases x with ⟨h1,_,rfl⟩|⟨h1,b,off,cap,es,⟨ad,rfl,_⟩,_⟩
 ·exact ⟨none,0,0,rfl,by simp [h1]⟩
 ·exact ⟨_,_,_,rfl,by simp [h1]⟩
def Qa5 (P:Program):Prop:=∀{β:Type} {call:FuncId→List CV→Option CV} {σ:St} {acc:List Loc} {r:β} {f:CV→List Loc→Option β} {op:BinOp} {t:TypeId} {ts:List TypeDesc} {a b:List CV}
 {vs us:List Value} {w:World} {h:Hw} {fs:Array Field},P.underlying t=some (.struct fs)→Qv4 P t=some ts→CRepV w h a vs→CRepV w h b us→
 ((QdN ts a b).bind fun r=>eqOp op r).exec call σ acc f=some r→
 ∃c v acc',f c acc'=some r∧CRep w h c v∧(binOp op t (.agg vs.toArray) (.agg us.toArray)).run P w= .ok v w∧∀ox oy,(eqGuard op t ox oy (.agg vs.toArray) (.agg us.toArray)).run P w= .ok () w
theorem QtO {c:CV} {b:Bool} (h:c.asE=some b):(c= .nilif∧b=true)∨(c= .err∧b=false):=by
 cases c<;>simp [CV.asE] at h
 ·exact .inl ⟨rfl,h⟩
 ·exact .inr ⟨rfl,h⟩
theorem QkU {c:List CV}:∀{n off:Nat} {acc:List Loc} {f:List CV→List Loc→Option β},(Qlb c off n).exec call σ acc f=some r→f ((c.drop off).take n) acc=some r
 |0,off,acc,f,h=>by simpa [Qlb,M.exec] using h
 |n+1,off,acc,f,h=>by
  simp only [Qlb,M.exec] at h
  obtain ⟨x,hx,h⟩:=Qag h
  rw [M.exec_bind] at h
  have h:=QkU h
  simp only [M.exec] at h
  have hl:off<c.length:=(List.getElem?_eq_some_iff.1 hx).1
  have e:=(List.getElem?_eq_some_iff.1 hx).2
  rw [List.drop_eq_getElem_cons hl,List.take_succ_cons,e]
  exact h
theorem Qot:∀(ts:List TypeDesc) (a b:List CV),QdN ts (a.take ts.length) (b.take ts.length)=QdN ts a b
 | [],a,b=>by simp [QdN]
 |t::ts, [],b=>by simp [QdN]
 |t::ts,x::xs, []=>by simp [QdN]
 |t::ts,x::xs,y::ys=>by
  simp only [List.length_cons,List.take_succ_cons]
  unfold QdN
  simp only [Qot ts xs ys]
theorem Qqr (op:BinOp) (t:TypeId) (ox oy:Operand) (h:(ox.isConst||oy.isConst)=true):(eqGuard op t ox oy .nilIface .nilIface).run P w= .ok () w:=by
 cases ox<;>cases oy<;>simp [Operand.isConst] at h<;>cases op<;>simp [eqGuard]
theorem QvR (SE:Qa5 P) {lit:Bool} {op:BinOp} {t u:TypeId} {x y:AV} {px py:Place} {vx vy:Value} (hx:ARep P w G px x vx) (hy:ARep P w G py y vy)
  {f:CV→List Loc→Option β} (h:(binM P lit op t u x y).exec call σ acc f=some r):
  ∃c v acc',f c acc'=some r∧CRep w G.hw c v∧(binOp op t vx vy).run P w= .ok v w∧∀ox oy:Operand,(lit=true→(ox.isConst||oy.isConst)=true)→(eqGuard op t ox oy vx vy).run P w= .ok () w:=by
 unfold binM at h
 split at h
 ·
  rename_i k ht
  simp only [M.exec_bind'] at h
  obtain ⟨a,h,ha⟩:=QaH hx h
  obtain ⟨b,h,hb⟩:=QaH hy h
  split at h
  ·split at h
   ·simp only [M.exec] at h
    obtain ⟨n,hn,h⟩:=Qag h
    obtain ⟨m,hm,h⟩:=Qag h
    rw [QbW hn] at ha
    rw [QbW hm] at hb
    simp only [CRep] at ha hb
    subst ha hb
    obtain ⟨c,v,h1,h2,h3⟩:=Qms (t:=t) (w:=w) (P:=P) h
    exact ⟨c,v,_,h1,h2 _ _,h3,fun ox oy _=>Qc5 _ _ _ _ (by simp) (by simp)⟩
   ·simp [M.exec] at h
  ·split at h
   ·simp only [M.exec] at h
    obtain ⟨n,hn,h⟩:=Qag h
    obtain ⟨m,hm,h⟩:=Qag h
    rw [QbW hn] at ha
    rw [QbW hm] at hb
    simp only [CRep] at ha hb
    subst ha hb
    obtain ⟨c,v,h1,h2,h3⟩:=Qms (t:=t) (w:=w) (P:=P) h
    exact ⟨c,v,_,h1,h2 _ _,h3,fun ox oy _=>Qc5 _ _ _ _ (by simp) (by simp)⟩
   ·simp [M.exec] at h
  ·rename_i n1 n2
   simp only [M.exec] at h
   obtain ⟨n,hn,h⟩:=Qag h
   obtain ⟨m,hm,h⟩:=Qag h
   rw [QbW hn] at ha
   rw [QbW hm] at hb
   simp only [CRep] at ha hb
   subst ha hb
   obtain ⟨c,v,h1,h2,h3⟩:=Qs5 (t:=t) (w:=w) (P:=P) (by intro e;exact n1 e) (by intro e;exact n2 e) h
   exact ⟨c,v,_,h1,h2 _ _,h3,fun ox oy _=>Qc5 _ _ _ _ (by simp) (by simp)⟩
 ·
  simp only [M.exec_bind'] at h
  obtain ⟨a,h,ha⟩:=QaH hx h
  obtain ⟨b,h,hb⟩:=QaH hy h
  simp only [M.exec] at h
  obtain ⟨n,hn,h⟩:=Qag h
  obtain ⟨m,hm,h⟩:=Qag h
  rw [QcU hn] at ha
  rw [QcU hm] at hb
  simp only [CRep] at ha hb
  subst ha hb
  obtain ⟨c,v,h1,h2,h3⟩:=Qua (t:=t) (w:=w) (P:=P) h
  exact ⟨c,v,_,h1,h2 _ _,h3,fun ox oy _=>Qc5 _ _ _ _ (by simp) (by simp)⟩
 ·
  rename_i ht
  simp only [M.exec_bind'] at h
  obtain ⟨a,h,ha⟩:=QaH hx h
  obtain ⟨b,h,hb⟩:=QaH hy h
  simp only [M.exec] at h
  obtain ⟨n,hn,h⟩:=Qag h
  obtain ⟨m,hm,h⟩:=Qag h
  rw [Qea hn] at ha
  rw [Qea hm] at hb
  simp only [CRep] at ha hb
  subst ha hb
  obtain ⟨c,v,h1,h2,h3⟩:=Qfp (Qre (w:=w) ht n m) (by simp [binOp]) (by simp [binOp]) h
  exact ⟨c,v,_,h1,h2 _ _,h3,fun ox oy _=>Qc5 _ _ _ _ (by simp) (by simp)⟩
 ·
  rename_i e ht
  simp only [M.exec_bind'] at h
  obtain ⟨a,h,ha⟩:=QaH hx h
  obtain ⟨b,h,hb⟩:=QaH hy h
  simp only [M.exec] at h
  obtain ⟨p,hp,h⟩:=Qag h
  obtain ⟨q,hq,h⟩:=Qag h
  obtain ⟨hc,h⟩:=Qaf h
  rw [Qfq hp] at ha
  rw [Qfq hq] at hb
  obtain ⟨a1,l1,c1,rfl,e1⟩:=ha.slice_nil
  obtain ⟨a2,l2,c2,rfl,e2⟩:=hb.slice_nil
  rw [e1,e2] at h hc
  rw [Bool.and_comm] at h
  have hc':a1=none∨a2=none:=by
   cases a1<;>cases a2<;>simp at hc⊢
  obtain ⟨c,v,h1,h2,h3⟩:=Qfp (QqI (w:=w) ht hc') (by simp [binOp]) (by simp [binOp]) h
  exact ⟨c,v,_,h1,h2 _ _,h3,fun ox oy _=>Qc5 _ _ _ _ (by simp) (by simp)⟩
 ·
  rename_i e ht
  have fin:∀(p q:Option Addr),vx= .pointer p→vy= .pointer q→(p=none∨q=none)→∀{b:Bool},b=(p.isNone&&q.isNone)→(eqOp op b).exec call σ acc f=some r→
    ∃c v acc',f c acc'=some r∧CRep w G.hw c v∧(binOp op t vx vy).run P w= .ok v w∧∀ox oy:Operand,(lit=true→(ox.isConst||oy.isConst)=true)→(eqGuard op t ox oy vx vy).run P w= .ok () w:=by
   intro p q e1 e2 hc b hb h
   subst e1 e2 hb
   obtain ⟨c,v,h1,h2,h3⟩:=Qfp (Qog (w:=w) ht hc) (by simp [binOp]) (by simp [binOp]) h
   exact ⟨c,v,_,h1,h2 _ _,h3,fun ox oy _=>Qc5 _ _ _ _ (by simp) (by simp)⟩
  split at h
  ·simp only [ARep,CRep] at hx hy
   exact fin none none hx hy (.inl rfl) rfl h
  ·simp only [ARep,CRep] at hx hy
   obtain ⟨b,_,hx⟩:=hx
   exact fin _ none hx hy (.inr rfl) rfl h
  ·simp only [ARep,CRep] at hx hy
   obtain ⟨b,_,hy⟩:=hy
   exact fin none _ hx hy (.inl rfl) rfl h
  ·simp only [ARep,CRep] at hx hy
   obtain ⟨b,o',hx,_⟩:=hx
   exact fin _ none hx hy (.inr rfl) rfl h
  ·simp only [ARep,CRep] at hx hy
   obtain ⟨b,o',hy,_⟩:=hy
   exact fin none _ hx hy (.inl rfl) rfl h
  ·simp [M.exec] at h
 ·
  rename_i ps rs vv ht
  have fin:∀{b:Bool},((vx= .nilFunc∧(vy= .nilFunc∨∃f p q,vy= .func f p q))∨(vy= .nilFunc∧∃f p q,vx= .func f p q))→b=(QnH vx&&QnH vy)→(eqOp op b).exec call σ acc f=some r→
    ∃c v acc',f c acc'=some r∧CRep w G.hw c v∧(binOp op t vx vy).run P w= .ok v w∧∀ox oy:Operand,(lit=true→(ox.isConst||oy.isConst)=true)→(eqGuard op t ox oy vx vy).run P w= .ok () w:=by
   intro b hc hb h
   subst hb
   obtain ⟨c,v,h1,h2,h3⟩:=Qfp (QqV (w:=w) ht hc) (by rcases hc with ⟨rfl,rfl|⟨f,p,q,rfl⟩⟩|⟨rfl,f,p,q,rfl⟩<;>simp [binOp]) (by rcases hc with ⟨rfl,rfl|⟨f,p,q,rfl⟩⟩|⟨rfl,f,p,q,rfl⟩<;>simp [binOp]) h
   refine ⟨c,v,_,h1,h2 _ _,h3,fun ox oy _=>Qc5 _ _ _ _ ?_ ?_⟩
   ·rcases hc with ⟨rfl,_⟩|⟨_,f,p,q,rfl⟩<;>simp
   ·rcases hc with ⟨rfl,_⟩|⟨_,f,p,q,rfl⟩<;>simp
  split at h
  ·simp only [M.exec] at h
   obtain ⟨p,hp,h⟩:=Qag h
   obtain ⟨q,hq,h⟩:=Qag h
   obtain ⟨hc,h⟩:=Qaf h
   rcases Qr8 hp with ⟨rfl,rfl⟩|⟨rfl,g,rfl⟩<;>rcases Qr8 hq with ⟨rfl,rfl⟩|⟨rfl,g',rfl⟩
   ·simp only [ARep,CRep] at hx hy
    subst hx hy
    exact fin (.inl ⟨rfl, .inl rfl⟩) rfl h
   ·simp only [ARep,CRep] at hx hy
    subst hx hy
    exact fin (.inl ⟨rfl, .inr ⟨_,_,_,rfl⟩⟩) rfl h
   ·simp only [ARep,CRep] at hx hy
    subst hx hy
    exact fin (.inr ⟨rfl,_,_,_,rfl⟩) rfl h
   ·cases hc
  ·simp only [ARep,CRep] at hx hy
   obtain ⟨vs,hx,_⟩:=hx
   subst hx hy
   exact fin (.inr ⟨rfl,_,_,_,rfl⟩) rfl h
  ·simp only [ARep,CRep] at hx hy
   obtain ⟨vs,hy,_⟩:=hy
   subst hx hy
   exact fin (.inl ⟨rfl, .inr ⟨_,_,_,rfl⟩⟩) rfl h
  ·simp [M.exec] at h
 ·
  rename_i ms ht
  split at h
  ·simp only [M.exec_bind'] at h
   obtain ⟨a,h,ha⟩:=QaH hx h
   obtain ⟨b,h,hb⟩:=QaH hy h
   simp only [M.exec] at h
   obtain ⟨p,hp,h⟩:=Qag h
   obtain ⟨q,hq,h⟩:=Qag h
   obtain ⟨hc,h⟩:=Qaf h
   rcases QtO hp with ⟨rfl,rfl⟩|⟨rfl,rfl⟩<;>rcases QtO hq with ⟨rfl,rfl⟩|⟨rfl,rfl⟩
   ·simp only [CRep] at ha hb
    subst ha hb
    obtain ⟨c,v,h1,h2,h3⟩:=Qfp (QsK (w:=w) ht) (by simp [binOp]) (by simp [binOp]) h
    exact ⟨c,v,_,h1,h2 _ _,h3,fun ox oy hl=>Qqr _ _ _ _ (hl rfl)⟩
   ·simp only [CRep] at ha hb
    obtain ⟨ty,z,hb⟩:=hb
    subst ha hb
    obtain ⟨c,v,h1,h2,h3⟩:=Qfp (QsH (w:=w) ht ty z) (by simp [binOp]) (by simp [binOp]) h
    exact ⟨c,v,_,h1,h2 _ _,h3,fun ox oy _=>by cases op<;>simp [eqGuard]⟩
   ·simp only [CRep] at ha hb
    obtain ⟨ty,z,ha⟩:=ha
    subst ha hb
    obtain ⟨c,v,h1,h2,h3⟩:=Qfp (QsP (w:=w) ht ty z) (by simp [binOp]) (by simp [binOp]) h
    exact ⟨c,v,_,h1,h2 _ _,h3,fun ox oy _=>Qc5 _ _ _ _ (by simp) (by simp)⟩
   ·simp at hc
  ·simp [M.exec] at h
 ·
  rename_i fs ht
  split at h
  ·rename_i ts hts
   simp only [M.exec_bind'] at h
   obtain ⟨a,h,ha⟩:=QaH hx h
   obtain ⟨b,h,hb⟩:=QaH hy h
   simp only [M.exec] at h
   obtain ⟨p,hp,h⟩:=Qag h
   obtain ⟨q,hq,h⟩:=Qag h
   rw [Qph hp] at ha
   rw [Qph hq] at hb
   simp only [CRep] at ha hb
   obtain ⟨vs,rfl,ha⟩:=ha
   obtain ⟨us,rfl,hb⟩:=hb
   rw [M.exec_bind] at h
   have h:=QkU h
   rw [M.exec_bind] at h
   have h:=QkU h
   simp only [List.drop_zero,Qot,bind] at h
   obtain ⟨c,v,acc',h1,h2,h3,h4⟩:=SE ht hts ha hb h
   exact ⟨c,v,acc',h1,h2,h3,fun ox oy _=>h4 ox oy⟩
  ·simp [M.exec] at h
 ·simp [M.exec] at h
theorem QxT (SE:Qa5 P) (S:Sim P B W0 d σ a w G) {op:BinOp} {t u:TypeId} {x y:Operand} (ho:o.op= .binOp op t x y u) {k:List W→List Loc→Option β}
  (h:(opM P d ops o).exec call σ acc k=some r):OpDone P B W0 d o σ a w G k r:=by
 unfold opM at h
 rw [ho] at h
 simp only [M.exec_bind'] at h
 obtain ⟨v,acc',h,hv⟩:=QaC S _ h
 obtain ⟨u,acc',h,hu⟩:=QaC S _ h
 obtain ⟨c,z,acc',h,hc,hrun,hg⟩:=QvR SE hv hu h
 have hg:=hg x y id
 exact OpDone.pure (x:=z) S h (by simp [execOp,ho,hg,hrun]) fun t _=>by simpa only [ARep] using hc
theorem Qzf (S:Sim P B W0 d σ a w G) {op:UnOp} {t:TypeId} {x:Operand} (ho:o.op= .unOp op t x) {k:List W→List Loc→Option β}
  (h:(opM P d ops o).exec call σ acc k=some r):OpDone P B W0 d o σ a w G k r:=by
 unfold opM at h
 rw [ho] at h
 simp only [M.exec_bind'] at h
 obtain ⟨v,acc',h,hv⟩:=QaC S _ h
 unfold unM at h
 split at h
 ·simp only [M.exec_bind'] at h
  obtain ⟨c,h,hc⟩:=QaH hv h
  simp only [M.exec] at h
  obtain ⟨b,hb,h⟩:=Qag h
  rw [Qea hb] at hc
  simp only [CRep] at hc
  exact OpDone.pure (x:= .bool !b) S h (by simp [execOp,ho,hc,Op.unary]) fun t _=>by simp only [ARep,CRep]
 ·rename_i q ht _
  simp only [M.exec_bind'] at h
  obtain ⟨c,h,hc⟩:=QaH hv h
  simp only [M.exec] at h
  obtain ⟨b,hb,h⟩:=Qag h
  rw [QbW hb] at hc
  simp only [CRep] at hc
  exact OpDone.pure (x:= .int q (q.wrap (0-b))) S h (by simp [execOp,ho,hc,Op.unary,Op.intArith]) fun t _=>by simp only [ARep,CRep]
 ·simp [M.exec] at h
theorem QvQ (S:Sim P B W0 d σ a w G) {x:Operand} {i:Nat} (ho:o.op= .extract x i) {k:List W→List Loc→Option β}
  (h:(opM P d ops o).exec call σ acc k=some r):OpDone P B W0 d o σ a w G k r:=by
 unfold opM at h
 rw [ho] at h
 simp only [M.exec_bind'] at h
 obtain ⟨v,acc',h,hv⟩:=QaC S _ h
 split at h
 ·rename_i c
  simp only [M.exec] at h
  obtain ⟨vs,hvs,h⟩:=Qag h
  obtain ⟨z,hz,h⟩:=Qag h
  simp only [ARep] at hv
  rw [QxA hvs] at hv
  simp only [CRep] at hv
  obtain ⟨us,hus,hr⟩:=hv
  obtain ⟨q,hq,hr⟩:=hr.get hz
  exact OpDone.pure (x:=q) S h (by simp [execOp,ho,hus,Instr.extract,hq]) fun t _=>by simpa only [ARep] using hr
 ·rename_i vs
  simp only [M.exec] at h
  obtain ⟨h2,h⟩:=Qaf h
  simp only [ARep] at hv
  obtain ⟨us,hus,hr⟩:=hv
  obtain ⟨q,hq,hr⟩:=hr.get (by simpa using h2)
  exact OpDone.pure (x:=q) S h (by simp [execOp,ho,hus,Instr.extract,hq]) fun t _=>ARep.ofNone S.mem.noNone hr
 ·simp [M.exec] at h
end Go.Am
namespace Go.Am
open Go.RowKit
variable {P:Program} {B:Nat} {W0:Base} {d:Nat} {σ:St} {a:Act} {w:World} {G:Gh} {β:Type} {call:FuncId→List CV→Option CV}
 {acc:List Loc} {r:β} {o:Oper} {ops:List Oper}
theorem QuB (S:Sim P B W0 d σ a w G) {x:Operand} (ho:o.op= .nilCheck x) {k:List W→List Loc→Option β}
  (h:(opM P d ops o).exec call σ acc k=some r):OpDone P B W0 d o σ a w G k r:=by
 unfold opM at h
 rw [ho] at h
 simp only [M.exec_bind'] at h
 obtain ⟨v,acc',h,hv⟩:=QaC S _ h
 split at h
 ·have hv':=hv
  simp only [ARep] at hv
  obtain ⟨b,hb,hx⟩:=hv
  exact OpDone.pure (x:=a.eval x) S h (by simp [execOp,ho,hx]) fun t _=>by simpa only [ARep] using hv'
 ·have hv':=hv
  simp only [ARep] at hv
  obtain ⟨b,o',hx,_⟩:=hv
  exact OpDone.pure (x:=a.eval x) S h (by simp [execOp,ho,hx]) fun t _=>by simpa only [ARep] using hv'
 ·have hv':=hv
  simp only [ARep] at hv
  obtain ⟨vs,hx,_⟩:=hv
  exact OpDone.pure (x:=a.eval x) S h (by simp [execOp,ho,hx]) fun t _=>by simpa only [ARep] using hv'
 ·have hv':=hv
  simp only [ARep] at hv
  obtain ⟨b,hb,hx⟩:=hv
  exact OpDone.pure (x:=a.eval x) S h (by simp [execOp,ho,hx]) fun t _=>by simpa only [ARep] using hv'
 ·simp only [M.exec] at h
  obtain ⟨f,hf,h⟩:=Qag h
  simp only [ARep] at hv
  rw [Qpc hf] at hv
  simp only [CRep] at hv
  exact OpDone.pure (x:=a.eval x) S h (by simp [execOp,ho,hv]) fun t _=>by simpa only [ARep,CRep] using hv
 ·simp [M.exec] at h
theorem QxK (S:Sim P B W0 d σ a w G) {t:TypeId} {x i:Operand} (ho:o.op= .index t x i) {k:List W→List Loc→Option β}
  (h:(opM P d ops o).exec call σ acc k=some r):OpDone P B W0 d o σ a w G k r:=by
 unfold opM at h
 rw [ho] at h
 simp only [M.exec_bind'] at h
 obtain ⟨v,acc',h,hv⟩:=QaC S _ h
 obtain ⟨u,acc',h,hu⟩:=QaC S _ h
 obtain ⟨c,h,hc⟩:=QaH hv h
 obtain ⟨e,h,he⟩:=QaH hu h
 split at h
 ·rename_i ht
  simp only [M.exec] at h
  obtain ⟨s,hs,h⟩:=Qag h
  obtain ⟨n,hn,h⟩:=Qag h
  obtain ⟨z,hz,h⟩:=Qag h
  rw [QcU hs] at hc
  obtain ⟨kn,hek⟩:=QgE hn
  rw [hek] at he
  simp only [CRep] at hc he
  unfold atS at hz
  split at hz
  ·rename_i h0
   refine OpDone.pure (x:= .int .u8 z.toNat) S h ?_ fun t _=>by simp only [ARep,CRep]
   have hb:(⟨s.toArray⟩:ByteArray)[n.toNat]?=some z:=by
    have hl:n.toNat<s.length:=(List.getElem?_eq_some_iff.1 hz).1
    have:(⟨s.toArray⟩:ByteArray)[n.toNat]?=some ((⟨s.toArray⟩:ByteArray)[n.toNat]'(by simpa [ByteArray.size] using hl)):=getElem?_pos _ _ _
    rw [this]
    have h2:=(List.getElem?_eq_some_iff.1 hz).2
    simp only [Option.some.injEq]
    rw [←h2];rfl
   simp [execOp,ho,hc,he,Instr.index,asIntOf,run_underlying ht,h0,hb]
  ·simp at hz
 ·simp [M.exec] at h
theorem QsY (S:Sim P B W0 d σ a w G) {t:TypeId} {x:Operand} {f:Nat} (ho:o.op= .fieldAddr t x f) {k:List W→List Loc→Option β}
  (h:(opM P d ops o).exec call σ acc k=some r):OpDone P B W0 d o σ a w G k r:=by
 unfold opM at h
 rw [ho] at h
 simp only [M.exec_bind'] at h
 obtain ⟨v,acc',h,hv⟩:=QaC S _ h
 simp only [M.exec] at h
 obtain ⟨p,hp,h⟩:=Qag h
 obtain ⟨hs,h⟩:=Qaf h
 unfold QnN at hp
 split at hp
 ·rename_i fs ht
  simp only [Option.map_eq_some_iff] at hp
  obtain ⟨fd,hfd,rfl⟩:=hp
  have hs:P.cellsOf fd.type≠0:=by simpa using hs
  have hi:∃i,P.info? fd.type=some i∧i.size=P.cellsOf fd.type:=by
   unfold Program.cellsOf at hs⊢
   cases hh:P.info? fd.type with
   |none=>simp [hh] at hs
   |some i=>exact ⟨i,rfl,by simp⟩
  obtain ⟨i,hi,hsz⟩:=hi
  have place:∀(b q:Nat),((fieldPlace (Qas b q) fd).run P w)= .ok (Qas b (q+fd.offset)) w:=by
   intro b q
   have:i.size≠0:=by rw [hsz];exact hs
   simp only [fieldPlace,sizeOf,typeInfo,Sem.run_bind,run_program,Result.andThen_ok,hi,Sem.run_pure,this,if_false]
   congr 1
   unfold Addr.add Qas
   split<;>simp_all
  split at h
  ·simp only [ARep] at hv
   obtain ⟨b,hb,hx⟩:=hv
   refine OpDone.pure (x:= .pointer (some (Qas b _))) S h ?_ fun t _=>by simp only [ARep];exact ⟨b,hb,rfl⟩
   simp [execOp,ho,hx,Instr.fieldAt,run_underlying ht,hfd,Instr.sureAddr,place]
  ·simp only [ARep] at hv
   obtain ⟨b,o',hx,h1,h2⟩:=hv
   refine OpDone.pure (x:= .pointer (some (Qas b _))) S h ?_ fun t _=>by simp only [ARep];exact ⟨b,o',rfl,h1,h2⟩
   simp [execOp,ho,hx,Instr.fieldAt,run_underlying ht,hfd,Instr.sureAddr,place,Nat.add_assoc]
  ·simp only [ARep] at hv
   obtain ⟨b,hb,hx⟩:=hv
   refine OpDone.pure (x:= .pointer (some (Qas b _))) S h ?_ fun t _=>by simp only [ARep];exact ⟨b,hb,rfl⟩
   simp [execOp,ho,hx,Instr.fieldAt,run_underlying ht,hfd,Instr.sureAddr,place,Nat.add_assoc]
  ·simp [M.exec] at h
 ·simp at hp
theorem Qc1 {e:TypeId} (h:P.cellsOf e≠0) (w:World):(sizeOf e).run P w= .ok (P.cellsOf e) w:=by
 unfold Program.cellsOf at h⊢
 cases hh:P.info? e with
 |none=>simp [hh] at h
 |some i=>simp [sizeOf,typeInfo,hh]
theorem Qbi (b q n:Nat):(Qas b q).add n=Qas b (q+n):=by
 unfold Addr.add Qas
 split<;>simp_all
theorem QtU (S:Sim P B W0 d σ a w G) {t:TypeId} {x i:Operand} (ho:o.op= .indexAddr t x i) {k:List W→List Loc→Option β}
  (h:(opM P d ops o).exec call σ acc k=some r):OpDone P B W0 d o σ a w G k r:=by
 unfold opM at h
 rw [ho] at h
 simp only [M.exec_bind'] at h
 obtain ⟨v,acc',h,hv⟩:=QaC S _ h
 obtain ⟨u,acc',h,hu⟩:=QaC S _ h
 obtain ⟨e,h,he⟩:=QaH hu h
 split at h
 ·rename_i el ht
  split at h
  ·
   rename_i e' d' s off len cap _ _
   simp only [M.exec] at h
   obtain ⟨hee,h⟩:=Qaf h
   obtain ⟨n,hn,h⟩:=Qag h
   obtain ⟨hr,h⟩:=Qaf h
   obtain ⟨hpos,h⟩:=Qaf h
   obtain ⟨kn,hek⟩:=QgE hn
   rw [hek] at he
   simp only [CRep] at he
   have hpos:P.cellsOf el≠0:=by simpa using hpos
   have hee:=eq_of_beq hee
   subst hee
   simp only [Bool.and_eq_true,decide_eq_true_eq] at hr
   simp only [ARep] at hv
   obtain ⟨b,ad,c,q,q1,q2,q3,q4,q5,q6,q7⟩:=hv
   have q5:=q5 (by omega)
   subst q5
   refine OpDone.pure (x:= .pointer (some (Qas b (off*P.cellsOf e'+n.toNat*P.cellsOf e')))) S h ?_ fun t _=> ?_
   ·simp [execOp,ho,q2,he,Instr.indexAt,asIntOf,run_underlying ht,hr.1,hr.2,Qc1 hpos,Qbi]
   ·simp only [ARep]
    exact ⟨b,q1,by rw [Nat.add_zero,Nat.add_mul]⟩
  simp only [M.exec_bind'] at h
  obtain ⟨c,h,hc⟩:=QaH hv h
  simp only [M.exec] at h
  obtain ⟨p,hp,h⟩:=Qag h
  obtain ⟨n,hn,h⟩:=Qag h
  obtain ⟨z,hz,h⟩:=Qag h
  obtain ⟨hlen,h⟩:=Qaf h
  obtain ⟨hpos,h⟩:=Qaf h
  rw [Qfq hp] at hc
  obtain ⟨kn,hek⟩:=QgE hn
  rw [hek] at he
  simp only [CRep] at hc he
  have hpos:P.cellsOf el≠0:=by simpa using hpos
  have hlen:z.length=P.cellsOf el:=by simpa using hlen
  unfold atL at hz
  split at hz
  ·rename_i h0
   rcases hc with ⟨_,hl,_⟩|⟨_,b,off,cap,es,hx,hcap,hes,hhw,hrep⟩
   ·rw [hl] at hz;simp at hz
   ·have hlt:n.toNat<p.2.length:=(List.getElem?_eq_some_iff.1 hz).1
    have hmem:z∈p.2:=List.mem_of_getElem? hz
    have hx:=hx.exact (.inr (by omega))
    have hee:es=P.cellsOf el:=by rw [←hes z hmem,hlen]
    refine OpDone.pure (x:= .pointer (some (Qas b (off+n.toNat*P.cellsOf el)))) S h ?_ fun t _=> ?_
    ·have h1:n<(p.2.length:Int):=by omega
     simp [execOp,ho,hx,he,Instr.indexAt,asIntOf,run_underlying ht,h0,h1,Qc1 hpos,Qbi]
    ·simp only [ARep]
     refine ⟨b,off+n.toNat*es,by rw [hee];simp, ?_,hrep.get hes hz⟩
     have h2:(n.toNat+1)*es≤p.2.length*es:=Nat.mul_le_mul_right _ hlt
     rw [Nat.add_mul,Nat.one_mul] at h2
     rw [hlen,←hee]
     omega
  ·simp at hz
 ·rename_i len el ht
  cases v with
  |cptr c off=>
   simp only [M.exec] at h
   obtain ⟨n,hn,h⟩:=Qag h
   obtain ⟨hr,h⟩:=Qaf h
   obtain ⟨hpos,h⟩:=Qaf h
   obtain ⟨kn,hek⟩:=QgE hn
   rw [hek] at he
   simp only [CRep] at he
   simp only [ARep] at hv
   obtain ⟨b,o',hx,h1,h2⟩:=hv
   have hpos:P.cellsOf el≠0:=by simpa using hpos
   simp only [Bool.and_eq_true,decide_eq_true_eq] at hr
   refine OpDone.pure (x:= .pointer (some (Qas b (o'+off+n.toNat*P.cellsOf el)))) S h ?_ fun t _=> ?_
   ·simp [execOp,ho,hx,he,Instr.indexAt,Instr.sureAddr,asIntOf,run_underlying ht,hr.1,hr.2,Qc1 hpos,Qbi]
   ·simp only [ARep]
    exact ⟨b,o',by rw [Nat.add_assoc],h1,h2⟩
  |_=>simp [M.exec] at h
 ·simp [M.exec] at h
inductive OV (P:Program) (w:World) (G:Gh):Option AV→Option Value→Prop where
 |none:OV P w G none none
 |some {p:Place} {v:AV} {x:Value}:ARep P w G p v x→OV P w G (some v) (some x)
theorem QlS (S:Sim P B W0 d σ a w G) {f:Option AV→List Loc→Option β}:∀(x:Option Operand) {acc:List Loc},(oopd x).exec call σ acc f=some r→
  ∃v acc',f v acc'=some r∧OV P w G v (x.map a.eval)
 |none,acc,h=>⟨_,_,h, .none⟩
 |some x,acc,h=>by
  simp only [oopd,M.exec_bind',M.exec] at h
  obtain ⟨v,acc',h,hv⟩:=QaC S _ h
  exact ⟨_,_,h, .some hv⟩
theorem QeX {p:Place} {v:AV} {x:Value} (hv:ARep P w G p v x) {hb:Int} {g:Int→List Loc→Option β}
  {df:Int} (e:(Qlp (some v) df hb).exec call σ acc g=some r):
  ∃(kn:IntKind) (n:Nat),(n:Int)≤hb∧x= .int kn n∧g (n:Int) acc=some r:=by
 simp only [Qlp] at e
 rw [M.exec_bind] at e
 obtain ⟨c,e,hc⟩:=QaH hv e
 simp only [M.exec] at e
 obtain ⟨n,hn,e⟩:=Qag e
 obtain ⟨hb',e⟩:=Qaf e
 obtain ⟨kn,hek⟩:=QgE hn
 rw [hek] at hc
 simp only [CRep] at hc
 have hb':0≤n∧n≤hb:=by simpa using hb'
 refine ⟨kn,n.toNat,by omega, ?_, ?_⟩
 ·rw [hc,Int.toNat_of_nonneg hb'.1]
 ·rw [Int.toNat_of_nonneg hb'.1];exact e
theorem Qf8 {df hb:Int} {g:Int→List Loc→Option β}:(Qlp none df hb).exec call σ acc g=g df acc:=rfl
theorem QiG {isSlice:Bool} {len cap0 cap:Nat} (hlen:len≤cap0) (hcap:cap0≤cap) {l h m:Option AV} {lx hx mx:Option Value} (hl:OV P w G l lx) (hh:OV P w G h hx) (hm:OV P w G m mx)
  (hmh:m.isSome=true→h.isSome=true) {f:Int×Int→List Loc→Option β} (e:(Qle len cap0 l h m).exec call σ acc f=some r):
  ∃lo hi mm:Nat,f ((lo:Int),(hi:Int)) acc=some r∧lo≤hi∧hi≤cap0∧hi≤mm∧mm≤cap∧(mx=none→mm=cap)∧(∀x,mx=some x→(∃kn,x= .int kn mm)∧mm≤cap0)∧
   (Instr.sliceBounds isSlice len cap lx hx mx).run P w= .ok (lo,hi,mm) w:=by
 unfold Qle at e
 rw [M.exec_bind] at e
 cases hm with
 |none=>
  simp only [Qf8] at e
  rw [M.exec_bind] at e
  cases hh with
  |none=>
   simp only [Qf8] at e
   rw [M.exec_bind] at e
   cases hl with
   |none=>
    simp only [Qf8] at e
    exact ⟨0,len,cap,e,Nat.zero_le _,hlen,by omega,Nat.le_refl _,fun _=>rfl,by simp,by simp [Instr.sliceBounds]⟩
   |some hv=>
    obtain ⟨kn,n,hn,hx,e⟩:=QeX hv e
    subst hx
    exact ⟨n,len,cap,e,by omega,hlen,by omega,Nat.le_refl _,fun _=>rfl,by simp,by
     simp [Instr.sliceBounds,run_sliceBound,(by omega:(0:Int)≤n),(by omega:(n:Int)≤(len:Int))]⟩
  |some hv=>
   obtain ⟨kn,n,hn,hx,e⟩:=QeX hv e
   subst hx
   rw [M.exec_bind] at e
   have r1:=run_sliceBound (P:=P) w kn (n:Int) cap (if isSlice then .sliceAcap else .sliceAlen) (by omega) (by omega)
   cases hl with
   |none=>
    simp only [Qf8] at e
    exact ⟨0,n,cap,e,Nat.zero_le _,by omega,by omega,Nat.le_refl _,fun _=>rfl,by simp,by
     simp [Instr.sliceBounds,r1]⟩
   |some hv=>
    obtain ⟨kq,q,hq,hx,e⟩:=QeX hv e
    subst hx
    have r2:=run_sliceBound (P:=P) w kq (q:Int) n .sliceB (by omega) (by omega)
    exact ⟨q,n,cap,e,by omega,by omega,by omega,Nat.le_refl _,fun _=>rfl,by simp,by
     simp [Instr.sliceBounds,r1,r2]⟩
 |some hv=>
  obtain ⟨kz,z,hz,hx,e⟩:=QeX hv e
  subst hx
  rw [M.exec_bind] at e
  have r0:=run_sliceBound (P:=P) w kz (z:Int) cap (if isSlice then .slice3Acap else .slice3Alen) (by omega) (by omega)
  cases hh with
  |none=>simp at hmh
  |some hv=>
   obtain ⟨kn,n,hn,hx,e⟩:=QeX hv e
   subst hx
   rw [M.exec_bind] at e
   have r1:=run_sliceBound (P:=P) w kn (n:Int) z .slice3B (by omega) (by omega)
   cases hl with
   |none=>
    simp only [Qf8] at e
    exact ⟨0,n,z,e,Nat.zero_le _,by omega,by omega,by omega,by simp,fun x hx=>⟨⟨kz,(Option.some.inj hx).symm⟩,by omega⟩,by
     simp [Instr.sliceBounds,r0,r1]⟩
   |some hv=>
    obtain ⟨kq,q,hq,hx,e⟩:=QeX hv e
    subst hx
    have r2:=run_sliceBound (P:=P) w kq (q:Int) n .slice3C (by omega) (by omega)
    exact ⟨q,n,z,e,by omega,by omega,by omega,by omega,by simp,fun x hx=>⟨⟨kz,(Option.some.inj hx).symm⟩,by omega⟩,by
     simp [Instr.sliceBounds,r0,r1,r2]⟩
theorem QqO (s:List UInt8) (lo hi:Nat):(⟨s.toArray⟩:ByteArray).extract lo hi=⟨((s.take hi).drop lo).toArray⟩:=by
 apply ByteArray.ext
 simp only [ByteArray.data_extract,List.extract_toArray,List.extract_eq_take_drop]
 congr 1
 by_cases h:lo≤hi
 ·rw [List.take_drop];congr 2;omega
 ·have e1:hi-lo=0:=by omega
  rw [e1,List.take_zero]
  symm
  apply List.drop_eq_nil_of_le
  simp;omega
theorem CRepLL.part {w:World} {h:Hw} {b es lo hi:Nat} {l:List (List CV)} {off:Nat} (hes:∀c∈l,c.length=es) (hlo:lo≤hi) (hhi:hi≤l.length) (x:CRepLL w h b off l):
  CRepLL w h b (off+lo*es) ((l.take hi).drop lo):=by
 have h1:=(x.take hi).drop lo
 have h2:((List.take lo (List.take hi l)).map List.length).sum=lo*es:=by
  rw [QcJ (es:=es) (fun c hc=>hes c (List.mem_of_mem_take (List.mem_of_mem_take hc)))]
  congr 1
  simp;omega
 rw [h2] at h1
 exact h1
theorem QxQ (S:Sim P B W0 d σ a w G) {t:TypeId} {x:Operand} {l h m:Option Operand} (ho:o.op= .slice t x l h m) {k:List W→List Loc→Option β}
  (e:(opM P d ops o).exec call σ acc k=some r):OpDone P B W0 d o σ a w G k r:=by
 unfold opM at e
 rw [ho] at e
 simp only [M.exec_bind'] at e
 obtain ⟨v,acc',e,hv⟩:=QaC S _ e
 obtain ⟨lv,acc',e,hl⟩:=QlS S _ e
 obtain ⟨hv',acc',e,hh⟩:=QlS S _ e
 obtain ⟨mv,acc',e,hm⟩:=QlS S _ e
 generalize hmx:m.map a.eval=mx at hm
 unfold Qxk at e
 split at e
 ·
  rename_i e0 d0 s0 off len cap _ _ _
  split at e
  ·rename_i el ht
   simp only [M.exec] at e
   obtain ⟨hee,e⟩:=Qaf e
   obtain ⟨hpos,e⟩:=Qaf e
   obtain ⟨hmh,e⟩:=Qaf e
   have hee:=eq_of_beq hee
   subst hee
   have hpos:P.cellsOf el≠0:=by simpa using hpos
   simp only [ARep] at hv
   obtain ⟨b,ad,c,q,q1,q2,q3,q4,q5,q6,q7⟩:=hv
   unfold QwP at e
   rw [M.exec_bind] at e
   obtain ⟨lo,hi,mm,e,h1,h2,h3,h4,h5,h6,h7⟩:=QiG (isSlice:=true) (cap:=c) q3 q4 hl hh hm (by intro q;simpa [q] using hmh) e
   have run:(execOp a.eval o).run P w= .ok (.value (.slice (if mm=lo then some ad else some (ad.add (lo*P.cellsOf el))) (hi-lo) (mm-lo))) w:=by
    simp [execOp,ho,q2,hmx,Instr.sliceAt,Instr.slice,run_underlying ht,h7,Qc1 hpos]
   have hsub:(off+lo+(mm-lo))*P.cellsOf el≤q.2:=Nat.le_trans (Nat.mul_le_mul_right _ (by omega)) q7
   have rep:∀(k:Nat) (q':Place),hi-lo≤k→k≤mm-lo→
     ARep P w G q' (.rsl el d0 s0 (off+lo) (hi-lo) k) (.slice (if mm=lo then some ad else some (ad.add (lo*P.cellsOf el))) (hi-lo) (mm-lo)):=by
    intro k q' k1 k2
    simp only [ARep]
    refine ⟨b,if mm=lo then ad else ad.add (lo*P.cellsOf el),mm-lo,q,q1,by split<;>rfl,k1,k2,fun hk=> ?_,q6,hsub⟩
    rw [if_neg (by omega),q5 (by omega),Qbi,Nat.add_mul]
   cases hm with
   |none=>
    simp only [M.exec] at e
    refine OpDone.pure S e run fun t _=> ?_
    have:=h5 rfl
    have:=rep (cap-lo) (.tmp d t) (by omega) (by omega)
    simpa only [Int.toNat_natCast] using this
   |some hq=>
    rw [M.exec_bind] at e
    obtain ⟨c2,e,hc2⟩:=QaH hq e
    simp only [M.exec] at e
    obtain ⟨z,hz,e⟩:=Qag e
    obtain ⟨kz,hek⟩:=QgE hz
    rw [hek] at hc2
    simp only [CRep] at hc2
    obtain ⟨⟨km,h6'⟩,h6l⟩:=h6 _ rfl
    rw [hc2] at h6'
    simp only [Value.int.injEq] at h6'
    have hzm:z=(mm:Int):=h6'.2
    subst hzm
    refine OpDone.pure S e run fun t _=> ?_
    have:=rep (mm-lo) (.tmp d t) (by omega) (Nat.le_refl _)
    simpa only [Int.toNat_natCast] using this
  ·simp [M.exec] at e
 split at e
 ·
  rename_i ht
  rw [M.exec_bind] at e
  obtain ⟨c,e,hc⟩:=QaH hv e
  simp only [M.exec] at e
  obtain ⟨hmn,e⟩:=Qaf e
  obtain ⟨s,hs,e⟩:=Qag e
  rw [QcU hs] at hc
  simp only [CRep] at hc
  rw [M.exec_bind] at e
  have hmn:mx=none:=by
   cases hm with
   |none=>rfl
   |some _=>simp at hmn
  obtain ⟨lo,hi,mm,e,h1,h2,h3,h4,h5,h6,h7⟩:=QiG (isSlice:=false) (Nat.le_refl s.length) (Nat.le_refl s.length) hl hh (m:=none) (mx:=none) .none (by simp) e
  refine OpDone.pure (x:= .string ⟨((s.take hi).drop lo).toArray⟩) S e ?_ fun t _=>by simp only [ARep,CRep,Int.toNat_natCast]
  have hz:(⟨s.toArray⟩:ByteArray).size=s.length:=by simp [ByteArray.size]
  simp [execOp,ho,hc,hmx,hmn,Instr.sliceAt,Instr.slice,run_underlying ht,hz,h7,QqO]
 ·
  rename_i el ht
  rw [M.exec_bind] at e
  obtain ⟨c,e,hc⟩:=QaH hv e
  simp only [M.exec] at e
  obtain ⟨p,hp,e⟩:=Qag e
  obtain ⟨hpos,e⟩:=Qaf e
  obtain ⟨hmh,e⟩:=Qaf e
  obtain ⟨hes,e⟩:=Qaf e
  rw [Qfq hp] at hc
  have hpos:P.cellsOf el≠0:=by simpa using hpos
  have hes:∀c∈p.2,c.length=P.cellsOf el:=by simpa using hes
  rw [M.exec_bind] at e
  have shape:∃(ad:Option Addr) (cap:Nat),a.eval x= .slice ad p.2.length cap∧p.2.length≤cap∧p.1=ad.isNone:=by
   simp only [CRep] at hc
   rcases hc with ⟨q1,q2,q3⟩|⟨q1,b,off,cap,es,⟨_,q2,_⟩,q3,_⟩
   ·exact ⟨none,0,by rw [q3,q2];rfl,by simp [q2],by simp [q1]⟩
   ·exact ⟨_,cap,q2,q3,by simp [q1]⟩
  obtain ⟨ad,cap,hx,hcap,hnil⟩:=shape
  obtain ⟨lo,hi,mm,e,h1,h2,h3,h4,h5,h6,h7⟩:=QiG (isSlice:=true) (Nat.le_refl _) hcap hl hh hm (by intro q;simpa [q] using hmh) e
  have run:(execOp a.eval o).run P w= .ok (.value (.slice (if mm=lo then ad else ad.map (·.add (lo*P.cellsOf el))) (hi-lo) (mm-lo))) w:=by
   simp [execOp,ho,hx,hmx,Instr.sliceAt,Instr.slice,run_underlying ht,h7,Qc1 hpos]
  have rep:∀(full:Bool) (q:Place),(full=true→mm=hi)→
    ARep P w G q (if full then .lst false p.1 el ((p.2.take hi).drop lo) else .val (.list p.1 ((p.2.take hi).drop lo)))
     (.slice (if mm=lo then ad else ad.map (·.add (lo*P.cellsOf el))) (hi-lo) (mm-lo)):=by
   intro full q hfull
   simp only [CRep] at hc
   rcases hc with ⟨q1,q2,q3⟩|⟨q1,b,off,cap',es,q2,q3,q4,q5,q6⟩
   ·rw [hx] at q3
    simp only [Value.slice.injEq] at q3
    obtain ⟨rfl,hl0,rfl⟩:=q3
    have e0:p.2= []:=q2
    have:mm=0:=by omega
    have:hi=0:=by omega
    have:lo=0:=by omega
    subst_vars
    cases full<;>simp [ARep,CRep,q1,e0]
   ·obtain ⟨ad1,q2,q2e⟩:=q2
    rw [hx] at q2
    simp only [Value.slice.injEq] at q2
    obtain ⟨rfl,_,rfl⟩:=q2
    have len:((p.2.take hi).drop lo).length=hi-lo:=by simp;omega
    have mem:∀c∈(p.2.take hi).drop lo,c.length=P.cellsOf el:=fun c hcc=>hes c (List.mem_of_mem_take (List.mem_of_mem_drop hcc))
    have hee:p.2.length*es=p.2.length*P.cellsOf el:=by
     cases hp2:p.2 with
     |nil=>simp
     |cons y ys=>rw [←q4 y (by simp [hp2]),hes y (by simp [hp2])]
    have q5':off+p.2.length*P.cellsOf el≤G.hw b:=by rw [←hee];exact q5
    have hmul:hi*P.cellsOf el≤p.2.length*P.cellsOf el:=Nat.mul_le_mul_right _ h2
    have hsub:lo*P.cellsOf el+(hi-lo)*P.cellsOf el=hi*P.cellsOf el:=by rw [←Nat.add_mul];congr 1;omega
    have part:=q6.part hes h1 h2
    by_cases hml:mm=lo
    ·
     have e1:hi=lo:=by omega
     have e0:(p.2.take hi).drop lo= []:=by apply List.eq_nil_of_length_eq_zero;rw [len];omega
     rw [if_pos hml,e0]
     have e2:hi-lo=0:=by omega
     have e3:mm-lo=0:=by omega
     rw [e2,e3]
     cases full
     ·simp only [Bool.false_eq_true,if_false,ARep,CRep]
      exact .inr ⟨q1,b,off,0,P.cellsOf el,⟨_,rfl,fun q=>by simp at q⟩,by simp,by simp,by simp;omega,by simp [CRepLL]⟩
     ·simp only [if_true,ARep]
      exact .inr ⟨q1,b,off,0,⟨_,rfl,fun q=>by simp at q⟩,by simp,by simp,by simp;omega,by simp [CRepLL], .inl (by simp)⟩
    ·rw [if_neg hml]
     simp only [Option.map_some]
     have lies:SlAt false (.slice (some (ad1.add (lo*P.cellsOf el))) (hi-lo) (mm-lo)) b (off+lo*P.cellsOf el) ((p.2.take hi).drop lo).length (mm-lo):=
      ⟨_,by rw [len],fun q=>by
       have q:hi-lo≠0:=by rw [len] at q;simpa using q
       rw [q2e (.inr (by omega)),Qbi]⟩
     cases full
     ·simp only [Bool.false_eq_true,if_false,ARep,CRep]
      exact .inr ⟨q1,b,off+lo*P.cellsOf el,mm-lo,P.cellsOf el,lies,by rw [len];omega,mem,by rw [len];omega,part⟩
     ·simp only [if_true,ARep]
      exact .inr ⟨q1,b,off+lo*P.cellsOf el,mm-lo,lies,by rw [len];omega,mem,by rw [len];omega,part, .inl ⟨trivial,by rw [len,hfull rfl]⟩⟩
  cases hm with
  |none=>
   simp only [M.exec] at e
   refine OpDone.pure S e run fun t _=> ?_
   have:=rep false (.tmp d t) (by simp)
   simpa only [Int.toNat_natCast,Bool.false_eq_true,if_false] using this
  |some hq=>
   rw [M.exec_bind] at e
   obtain ⟨c2,e,hc2⟩:=QaH hq e
   simp only [M.exec] at e
   obtain ⟨z,hz,e⟩:=Qag e
   obtain ⟨hzh,e⟩:=Qaf e
   obtain ⟨kz,hek⟩:=QgE hz
   rw [hek] at hc2
   simp only [CRep] at hc2
   obtain ⟨⟨km,h6'⟩,_⟩:=h6 _ rfl
   rw [hc2] at h6'
   simp only [Value.int.injEq] at h6'
   have hzh:z=(hi:Int):=by simpa using hzh
   refine OpDone.pure S e run fun t _=> ?_
   have:=rep true (.tmp d t) (fun _=>by omega)
   simpa only [Int.toNat_natCast,if_true] using this
 ·simp [M.exec] at e
end Go.Am
namespace Go.Am
open Go.RowKit
variable {P:Program} {B:Nat} {W0:Base} {d:Nat} {σ:St} {a:Act} {w:World} {G:Gh} {β:Type} {call:FuncId→List CV→Option CV}
 {acc:List Loc} {r:β} {o:Oper} {ops:List Oper}
structure Cells (P:Program) (w:World) (G:Gh) (pl:Nat→Place) (cs:List AV) (us:List Value):Prop where
 len:us.length=cs.length
 rep:∀i,i<cs.length→∃u,us[i]?=some u∧u.oneCell'=true∧ARep P w G (pl i) (nthD .any cs i) u
theorem ARep.notRow {p:Place} {v:AV} {x:Value} (h:ARep P w G p v x):Qaz [v]=false:=by
 cases v with
 |row e l=>simp [ARep] at h
 |_=>rfl
theorem Cells.notRow {pl:Nat→Place} {cs:List AV} {us:List Value} (h:Cells P w G pl cs us):Qaz cs=false:=by
 cases cs with
 |nil=>rfl
 |cons x r=>
  cases r with
  |nil=>
   obtain ⟨u,_,_,q⟩:=h.rep 0 (by simp)
   exact ARep.notRow (v:=x) (by simpa [nthD] using q)
  |cons y r=>exact QkK x y r
theorem Cells.rep_of {cs:List AV} {us:List Value} {d s:Nat} (h:Cells P w G (fun i=> .cell d s i) cs us):CellsRep P w G d s cs us:=
 ⟨Fits.of h.notRow h.len,fun o ho=>by rw [Qge h.notRow] at ho⊢;exact h.rep o ho⟩
theorem Cells.nil {pl:Nat→Place}:Cells P w G pl [] []:=⟨rfl,fun i h=>by simp at h⟩
theorem Cells.cons {pl:Nat→Place} {c:AV} {cs:List AV} {u:Value} {us:List Value} (h1:u.oneCell'=true) (h2:ARep P w G (pl 0) c u) (h3:Cells P w G (fun i=>pl (i+1)) cs us):
  Cells P w G pl (c::cs) (u::us):=by
 refine ⟨by simp [h3.len],fun i hi=> ?_⟩
 cases i with
 |zero=>exact ⟨u,by simp,h1,by simpa [nthD] using h2⟩
 |succ i=>
  obtain ⟨z,q1,q2,q3⟩:=h3.rep i (by simpa using hi)
  exact ⟨z,by simpa using q1,q2,by simpa [nthD] using q3⟩
theorem Cells.uncons {pl:Nat→Place} {c:AV} {cs:List AV} {us:List Value} (h:Cells P w G pl (c::cs) us):
  ∃u r,us=u::r∧u.oneCell'=true∧ARep P w G (pl 0) c u∧Cells P w G (fun i=>pl (i+1)) cs r:=by
 cases us with
 |nil=>have:=h.len;simp at this
 |cons u r=>
  obtain ⟨z,q1,q2,q3⟩:=h.rep 0 (by simp)
  simp at q1;subst q1
  refine ⟨u,r,rfl,q2,by simpa [nthD] using q3,by have:=h.len;simpa using this,fun i hi=> ?_⟩
  obtain ⟨z,q1,q2,q3⟩:=h.rep (i+1) (by simpa using hi)
  exact ⟨z,by simpa using q1,q2,by simpa [nthD] using q3⟩
theorem Cells.weaken {pl pl':Nat→Place} {cs:List AV} {us:List Value} (h:Cells P w G pl cs us) (f:∀i u,i<cs.length→ARep P w G (pl i) (nthD .any cs i) u→ARep P w G (pl' i) (nthD .any cs i) u):Cells P w G pl' cs us:=
 ⟨h.len,fun i hi=>let ⟨u,q1,q2,q3⟩:=h.rep i hi;⟨u,q1,q2,f i u hi q3⟩⟩
theorem Qec {α γ:Type} (f:α→γ) (x:α) (y:γ) (h:f x=y):∀(l:List α) (i:Nat),nthD y (l.map f) i=f (nthD x l i)
 | [],i=>by simp [nthD,h]
 |z::l,0=>by simp [nthD]
 |z::l,i+1=>by simp [nthD,Qec f x y h l i]
theorem Cells.copy {pl pl':Nat→Place} {cs:List AV} {us:List Value} (h:Cells P w G pl cs us):Cells P w G pl' (cs.map AV.copy) us:=
 ⟨by simp [h.len],fun i hi=>by
  obtain ⟨u,q1,q2,q3⟩:=h.rep i (by simpa using hi)
  exact ⟨u,q1,q2,by rw [Qec AV.copy .any .any rfl];exact q3.copy⟩⟩
theorem ARep.oneCell {p:Place} {v:AV} {x:Value} (hv:ARep P w G p v x) (h:v.isCell=true):x.oneCell'=true:=by
 cases v with
 |any=>simp [AV.isCell] at h
 |undef=>simp [AV.isCell] at h
 |agg _=>simp [AV.isCell] at h
 |tup _=>simp [AV.isCell] at h
 |val c=>
  simp only [ARep] at hv
  simp only [AV.isCell] at h
  cases c with
  |agg _=>simp [CV.isCell] at h
  |tup _=>simp [CV.isCell] at h
  |list isnil l=>simp only [CRep] at hv;rcases hv with ⟨_,_,rfl⟩|⟨_,_,_,_,_,⟨_,rfl,_⟩,_⟩<;>rfl
  |err=>simp only [CRep] at hv;obtain ⟨_,_,rfl⟩:=hv;rfl
  |_=>simp only [CRep] at hv;subst hv;rfl
 |siter _ _=>simp [AV.isCell] at h
 |bld _=>simp [AV.isCell] at h
 |row _ _=>simp [AV.isCell] at h
 |mpp _ _=>simp [AV.isCell] at h
 |rsl _ _ _ _ _ _=>simp only [ARep] at hv;obtain ⟨_,_,_,_,_,rfl,_⟩:=hv;rfl
 |rptr _ _ _ _ _=>simp only [ARep] at hv;obtain ⟨_,_,rfl⟩:=hv;rfl
 |lst own n e l=>simp only [ARep] at hv;rcases hv with ⟨_,_,rfl⟩|⟨_,_,_,_,⟨_,rfl,_⟩,_⟩<;>rfl
 |ptr _ _ _=>simp only [ARep] at hv;obtain ⟨_,_,rfl⟩:=hv;rfl
 |cptr _ _=>simp only [ARep] at hv;obtain ⟨_,_,rfl,_⟩:=hv;rfl
 |clo _ _=>simp only [ARep] at hv;obtain ⟨_,rfl,_⟩:=hv;rfl
theorem QmF {x:Value} (h:x.oneCell'=true):x.cells= #[x]:=by
 cases x<;>simp [Value.oneCell',Value.cells] at h⊢
theorem CRepV.cells {pl:Nat→Place}:∀{c:List CV} {us:List Value},CRepV w G.hw c us→Cells P w G pl (c.map AV.val) us
 | [],us,h=>by simp only [CRepV] at h;subst h;exact Cells.nil
 |x::c,us,h=>by
  simp only [CRepV] at h
  obtain ⟨v,s,rfl,h2,h3,h4⟩:=h
  exact Cells.cons h2 (by simpa only [ARep] using h3) h4.cells
theorem Qi8 {c:List CV}:∀{n off:Nat} {f:List AV→List Loc→Option β},(nths c off n).exec call σ acc f=some r→
  f (((c.drop off).take n).map AV.val) acc=some r∧off+n≤max c.length off
 |0,off,f,h=>⟨by simpa [nths,M.exec] using h,by omega⟩
 |n+1,off,f,h=>by
  simp only [nths,M.exec] at h
  obtain ⟨x,hx,h⟩:=Qag h
  rw [M.exec_bind] at h
  obtain ⟨h1,h2⟩:=Qi8 (f:=fun r acc'=>f (.val x::r) acc') h
  have hl:off<c.length:=(List.getElem?_eq_some_iff.1 hx).1
  refine ⟨?_,by omega⟩
  have:(c.drop off).take (n+1)=x::(c.drop (off+1)).take n:=by
   have e:=(List.getElem?_eq_some_iff.1 hx).2
   rw [List.drop_eq_getElem_cons hl,List.take_succ_cons,e]
  rw [this];exact h1
theorem Qeh {p:Place} {agg:Bool} {n:Nat} {v:AV} {x:Value} (hv:ARep P w G p v x) {f:List AV→List Loc→Option β} (h:(Qgb agg n v).exec call σ acc f=some r):
  ∃cs,f cs acc=some r∧cs.length=n∧Cells P w G (fun _=>if agg then .none else p) cs x.cells.toList∧(agg=false→cs= [v])∧(agg=true→∃us:List Value,x= .agg us.toArray):=by
 unfold Qgb at h
 split at h
 ·simp only [M.exec] at h
  obtain ⟨hc,h⟩:=Qaf h
  simp only [Bool.and_eq_true,beq_iff_eq] at hc
  have h1:=hv.oneCell hc.2
  refine ⟨_,h,by simp [hc.1], ?_,fun _=>rfl,by simp⟩
  rw [QmF h1]
  exact Cells.cons h1 (by simpa using hv) Cells.nil
 ·split at h
  ·simp only [M.exec] at h
   obtain ⟨c,hcc,h⟩:=Qag h
   obtain ⟨hl,h⟩:=Qaf h
   obtain ⟨h,h2⟩:=Qi8 (f:=f) h
   simp only [ARep] at hv
   rw [Qph hcc] at hv
   simp only [CRep] at hv
   obtain ⟨us,rfl,hr⟩:=hv
   have hl:c.length=n:=by simpa using hl
   have e:((c.drop 0).take n)=c:=by rw [←hl];simp
   rw [e] at h
   refine ⟨_,h,by simp [hl], ?_,by simp,fun _=>⟨us,rfl⟩⟩
   simpa [Value.cells] using hr.cells
  ·simp only [M.exec] at h
   obtain ⟨hl,h⟩:=Qaf h
   simp only [ARep] at hv
   obtain ⟨us,rfl,hr,h1⟩:=hv
   refine ⟨_,h,by simpa using hl, ?_,by simp,fun _=>⟨us,rfl⟩⟩
   have:∀{cs:List AV} {us:List Value},ARepL P w G cs us→us.all Value.oneCell'=true→Cells P w G (fun _=> .none) cs us:=by
    intro cs
    induction cs with
    |nil=>intro us h _;simp only [ARepL] at h;subst h;exact Cells.nil
    |cons c cs ih=>
     intro us h h1
     simp only [ARepL] at h
     obtain ⟨v,s,rfl,h3,h4⟩:=h
     simp only [List.all_cons,Bool.and_eq_true] at h1
     exact Cells.cons h1.1 h3 (ih h4 h1.2)
   simpa [Value.cells] using this hr h1
  ·simp [M.exec] at h
theorem Qdy:∀{cs:List AV} {us:List Value} {vs:List CV} {pl:Nat→Place},Cells P w G pl cs us→QbF cs=some vs→CRepV w G.hw vs us∧CRepT w G.hw vs us∧vs.length=cs.length
 | [],us,vs,pl,h,e=>by
  simp [QbF] at e;subst e
  have:=h.len
  have:us= []:=List.eq_nil_of_length_eq_zero (by simpa using this)
  subst this
  simp [CRepV,CRepT]
 |c::cs,us,vs,pl,h,e=>by
  obtain ⟨u,r',rfl,h1,h2,h3⟩:=h.uncons
  cases c with
  |val v=>
   simp only [QbF,Option.map_eq_some_iff] at e
   obtain ⟨ws,e,rfl⟩:=e
   obtain ⟨q1,q2,q3⟩:=Qdy h3 e
   simp only [ARep] at h2
   exact ⟨by simp only [CRepV];exact ⟨_,_,rfl,h1,h2,q1⟩,by simp only [CRepT];exact ⟨_,_,rfl,h2,q2⟩,by simp [q3]⟩
  |lst own n el l=>
   simp only [QbF,Option.map_eq_some_iff] at e
   obtain ⟨ws,e,rfl⟩:=e
   obtain ⟨q1,q2,q3⟩:=Qdy h3 e
   have h2:=h2.list
   exact ⟨by simp only [CRepV];exact ⟨_,_,rfl,h1,h2,q1⟩,by simp only [CRepT];exact ⟨_,_,rfl,h2,q2⟩,by simp [q3]⟩
  |_=>simp [QbF] at e
theorem Cells.toL:∀{cs:List AV} {us:List Value} {pl:Nat→Place},Cells P w G pl cs us→ARepL P w G (cs.map AV.copy) us∧us.all Value.oneCell'=true
 | [],us,pl,h=>by
  have:=h.len
  have:us= []:=List.eq_nil_of_length_eq_zero (by simpa using this)
  subst this
  simp [ARepL]
 |c::cs,us,pl,h=>by
  obtain ⟨u,r',rfl,h1,h2,h3⟩:=h.uncons
  obtain ⟨q1,q2⟩:=Cells.toL h3
  exact ⟨by simp only [List.map_cons,ARepL];exact ⟨_,_,rfl,h2.copy,q1⟩,by simp [h1,q2]⟩
theorem QcZ {pl:Nat→Place} {cs:List AV} {us:List Value} (h:Cells P w G pl cs us) (p:Place):ARep P w G p (QfG cs) (.agg us.toArray):=by
 unfold QfG
 split
 ·rename_i vs e
  simp only [ARep,CRep]
  exact ⟨us,rfl,(Qdy h e).1⟩
 ·simp only [ARep]
  exact ⟨us,rfl,h.toL.1,h.toL.2⟩
theorem Qa4 {m:MemT} {d s:Nat} {c:List AV} {d' s':Nat}:
  box? (QaI m d s c) d' s'=if d'=d∧s'=s∧d<m.length∧s<(nthD [] m d).length then some c else box? m d' s':=by
 unfold box? QaI
 rw [QaL]
 by_cases h1:d'=d∧d<m.length
 ·rw [if_pos h1,QaL,h1.1]
  by_cases h2:s'=s∧s<(nthD [] m d).length
  ·rw [if_pos h2,if_pos ⟨rfl,h2.1,h1.2,h2.2⟩]
  ·rw [if_neg h2,if_neg (fun q=>h2 ⟨q.2.1,q.2.2.2⟩)]
 ·rw [if_neg h1,if_neg (fun q=>h1 ⟨q.1,q.2.2.1⟩)]
theorem Qis {m:MemT} {d s:Nat} {c:List AV} (h:box? m d s=some c):d<m.length∧s<(nthD [] m d).length:=by
 unfold box? at h
 constructor
 ·refine Decidable.byContradiction fun q=> ?_
  rw [Qar [] m d,List.getElem?_eq_none (by omega)] at h
  simp [nthD] at h
 ·refine Decidable.byContradiction fun q=> ?_
  rw [Qar none,List.getElem?_eq_none (by omega)] at h
  simp at h
theorem Qcy {m:MemT} {d s o:Nat} {v:AV} {c:List AV} (h:box? m d s=some c) (hr:Qaz c=false) (hv:Qaz [v]=false) {d' s':Nat}:
  box? (setCell m d s o v) d' s'=if d'=d∧s'=s then some (setN c o v) else box? m d' s':=by
 unfold setCell
 rw [h]
 simp only [Qz7 hr hv]
 rw [Qa4]
 have:=Qis h
 by_cases q:d'=d∧s'=s
 ·rw [if_pos q,if_pos ⟨q.1,q.2,this.1,this.2⟩]
 ·rw [if_neg q,if_neg (fun z=>q ⟨z.1,z.2.1⟩)]
theorem Qcf {m:MemT} {d s:Nat} {c:List AV}:(QaI m d s c).length=m.length:=by simp [QaI,QaK]
theorem QdD {m:MemT} {d s o:Nat} {v:AV}:(setCell m d s o v).length=m.length:=by
 unfold setCell;split
 ·exact Qcf
 ·rfl
theorem ARep.place {p q:Place} {v:AV} {x:Value} (h:v.owns=false) (hv:ARep P w G p v x):ARep P w G q v x:=by
 have:=hv.copy (q:=q)
 have e:v.copy=v:=by
  cases v with
  |lst own n e l=>cases own<;>simp [AV.owns,AV.copy] at h⊢
  |siter s pos=>simp [AV.owns] at h
  |bld T=>simp [AV.owns] at h
  |_=>rfl
 rwa [e] at this
theorem QrV (v:AV):v.copy.owns=false:=by
 cases v with
 |lst own n e l=>cases own<;>rfl
 |_=>rfl
theorem Mem.weakCell {mem:MemT} (M:Mem P B W0 w G mem) {d s o:Nat} {v:AV} {c:List AV} (hb:box? mem d s=some c) (hr:Qaz c=false) (hrv:Qaz [v]=false)
  (hv:∀u,ARep P w G (.cell d s o) (nthD .any c o) u→ARep P w G (.cell d s o) v u):Mem P B W0 w G (setCell mem d s o v):=by
 refine ⟨M.below,M.base,M.own,M.hw,fun d' s' h=> ?_,fun d' s' cs h=> ?_,M.inj,M.glob⟩
 ·rw [Qcy hb hr hrv] at h
  split at h
  ·simp at h
  ·exact M.blk d' s' h
 ·rw [Qcy hb hr hrv] at h
  split at h
  ·rename_i q
   simp only [Option.some.injEq] at h
   obtain ⟨b,vs,T,fz,R⟩:=M.box d s c hb
   rw [q.1,q.2]
   obtain ⟨hlen,hrep⟩:=R.rep.plain hr
   have hr':Qaz (setN c o v)=false:=QfF hr hrv
   refine ⟨b,vs,T,fz,R.blk,R.lo,by rw [←h];exact Qix (R.cells (Qbw hr)) (Qbw hr'),R.free,R.hw,R.own,⟨by rw [←h];exact Fits.of hr' (by rw [QaK];exact hlen),fun i hi=> ?_⟩⟩
   rw [←h,Qge hr',QaK] at hi
   obtain ⟨u,q1,q2,q3⟩:=hrep i hi
   refine ⟨u,q1,q2, ?_⟩
   rw [←h,Qge hr',QaL]
   split
   ·rename_i z;rw [z.1] at q3⊢;exact hv u q3
   ·exact q3
  ·exact M.box d' s' cs h
theorem Mem.moveCell {mem:MemT} (M:Mem P B W0 w G mem) {d s o:Nat} {q:Place} {b:Nat} (h:G.own b=some (.cell d s o)) (hq:q≠ .none)
  (hc:∀c,box? mem d s=some c→Qaz c=false∧(nthD .any c o).owns=false):Mem P B W0 w (G.move b q) mem:=by
 refine ⟨M.below,M.base,fun k r hk=> ?_,M.hw,M.blk,fun d' s' cs hb=> ?_,M.inj,M.glob⟩
 ·by_cases e:k=b
  ·subst e
   simp [Gh.move] at hk
   subst hk
   have:=M.own k _ h
   exact ⟨this.1,this.2.1,hq⟩
  ·simp [Gh.move,e] at hk
   exact M.own k r hk
 ·obtain ⟨b',vs,T,fz,R⟩:=M.box d' s' cs hb
  refine ⟨b',vs,T,fz,R.blk,R.lo,R.heap,R.free,R.hw, ?_,⟨R.rep.len,fun i hi=> ?_⟩⟩
  ·have:b'≠b:=fun e=>by subst e;have:=R.own;simp [h] at this
   simp [Gh.move,this,R.own]
  ·obtain ⟨v,h1,h2,h3⟩:=R.rep.rep i hi
   refine ⟨v,h1,h2, ?_⟩
   have N:=QcM (w:=w) (q:=q) (r:= .none) h (by simp)
   by_cases e:d'=d∧s'=s∧i=o
   ·obtain ⟨rfl,rfl,rfl⟩:=e
    obtain ⟨hr,ho⟩:=hc cs hb
    rw [Qge hr] at h3⊢
    exact ARep.place ho (ARep.same N N _ (ARep.place (q:= .none) ho h3))
   ·exact ARep.same (QcM h (by simp;intro a b c;exact e ⟨a,b,c⟩)) N _ h3
theorem Sim.takeCell (S:Sim P B W0 d σ a w G) (o:Oper) {d' s off:Nat} {u:Value} (hh:σ.has (.cell d' s off)=true) (hu:ARep P w G (.cell d' s off) (Qbm σ.mem d' s off) u)
  (hown:(Qbm σ.mem d' s off).isOwn=true):
  ∃G',Sim P B W0 d (Qau σ (.cell d' s off (Qbm σ.mem d' s off).copy::Am.put o (Qbm σ.mem d' s off))) (a.put o.dst u) w G'∧Keeps B d w w G G':=by
 obtain ⟨c,hb,hrow,hlt0⟩:∃c,box? σ.mem d' s=some c∧Qaz c=false∧off<c.length:=by
  simp only [St.has] at hh
  split at hh
  ·rename_i c hb
   obtain ⟨q1,q2⟩:=QkH (by simpa using hh)
   exact ⟨c,hb,q1,q2⟩
  ·simp at hh
 have hrc:Qaz [(Qbm σ.mem d' s off).copy]=false:=by
  cases hv:Qbm σ.mem d' s off with
  |row e l=>rw [hv] at hown;simp [AV.isOwn] at hown
  |lst own n e l=>cases own<;>rfl
  |_=>rfl
 have hcell:Qbm σ.mem d' s off=nthD .any c off:=by simp [Qbm,hb]
 have M1:=S.mem.weakCell (o:=off) (v:=(Qbm σ.mem d' s off).copy) hb hrow hrc (fun u' h'=>by rw [hcell];exact h'.copy)
 have S1:Sim P B W0 d {σ with mem:=setCell σ.mem d' s off (Qbm σ.mem d' s off).copy} a w G:=⟨M1,by rw [QdD];exact S.depth,S.fr,S.cfg,S.marks⟩
 simp only [Qau,W.apply]
 generalize hv:Qbm σ.mem d' s off=v at*
 cases v with
 |lst own n e l=>
  cases own with
  |false=>simp [AV.isOwn] at hown
  |true=>
   have hu0:=hu
   simp only [ARep] at hu
   rcases hu with hu|⟨g1,b,bo,cap,g2,g3,g4,g5,g6,g7⟩
   ·exact ⟨G,S1.put o fun t _=>by simp only [ARep];exact .inl hu,Keeps.refl _ _ _ _⟩
   ·rcases g7 with g7|⟨_,g7⟩
    ·exact ⟨G,S1.put o fun t _=>by simp only [ARep];exact .inr ⟨g1,b,bo,cap,g2,g3,g4,g5,g6, .inl g7⟩,Keeps.refl _ _ _ _⟩
    ·have ho:=g7.1
     cases hd:o.dst with
     |none=>exact ⟨G,by simpa [Am.put,hd,Qau,Act.put] using S1,Keeps.refl _ _ _ _⟩
     |some t=>
      refine ⟨G.move b (.tmp d t), ?_,Keeps.move ho (by simp)⟩
      have M2:=M1.moveCell (q:= .tmp d t) ho (by simp) (fun c' hc'=>by
       rw [Qcy hb hrow hrc,if_pos ⟨rfl,rfl⟩] at hc'
       simp only [Option.some.injEq] at hc'
       refine ⟨by rw [←hc'];exact QfF hrow hrc, ?_⟩
       rw [←hc',QaL]
       split
       ·exact QrV _
       ·rename_i z
        exact (z ⟨rfl,hlt0⟩).elim)
      have N:=QcM (w:=w) (q:= .tmp d t) (r:= .none) ho (by simp)
      have F2:Fr P w (G.move b (.tmp d t)) d σ.tmps a.tmps:=⟨S.fr.len,fun i=>ARep.same (QcM ho (by simp)) N _ (S.fr.rep i)⟩
      have S2:Sim P B W0 d {σ with mem:=setCell σ.mem d' s off (AV.copy (.lst true n e l))} a w (G.move b (.tmp d t)):=⟨M2,by rw [QdD];exact S.depth,F2,S.cfg,S.marks.of (QkF ho)⟩
      simp only [Am.put,hd,Qau,W.apply]
      refine S2.setTmp ?_
      simp only [ARep]
      refine .inr ⟨g1,b,bo,cap,g2,g3,g4,g5, ?_, .inr ⟨trivial, ?_⟩⟩
      ·exact CRepLL.keep (Keep.refl _ _) l (by rw [QcJ g4];exact g5) g6
      ·obtain ⟨q1,q2,q3,q4,cur,q5,q6⟩:=g7
       exact ⟨by simp [Gh.move],q2,q3,q4,cur,q5,q6⟩
 |_=>simp [AV.isOwn] at hown
theorem Qct {t:TypeId} (h:(P.underlying t).isSome=true) (w:World):(isAgg t).run P w= .ok (Qa0 P t) w:=by
 cases hu:P.underlying t with
 |none=>simp [hu] at h
 |some dsc=>cases dsc<;>simp [isAgg,run_underlying hu,Qa0,hu]
theorem Qbz {t:TypeId} (h:(P.underlying t).isSome=true) (w:World):(sizeOf t).run P w= .ok (P.cellsOf t) w:=by
 cases hh:P.info? t with
 |none=>simp [Program.underlying,hh] at h
 |some i=>simp [sizeOf,typeInfo,hh,Program.cellsOf]
theorem Qh0 {d' s:Nat}:∀{n off:Nat} {acc:List Loc} {f:List AV→List Loc→Option β},(QhG d' s off n).exec call σ acc f=some r→
  ∃cs acc',f cs acc'=some r∧cs.length=n∧∀i,i<n→σ.has (.cell d' s (off+i))=true∧nthD .any cs i=Qbm σ.mem d' s (off+i)
 |0,off,acc,f,h=>⟨[],acc,by simpa [QhG,M.exec] using h,rfl,fun i hi=>by omega⟩
 |n+1,off,acc,f,h=>by
  simp only [QhG,M.exec] at h
  obtain ⟨h0,h⟩:=Qaf h
  rw [M.exec_bind] at h
  obtain ⟨cs,acc',h1,h2,h3⟩:=Qh0 (f:=fun r acc'=>f (σ.get (.cell d' s off)::r) acc') h
  refine ⟨_,_,h1,by simp [h2],fun i hi=> ?_⟩
  cases i with
  |zero=>exact ⟨by simpa using h0,by simp [nthD,St.get]⟩
  |succ i=>
   obtain ⟨q1,q2⟩:=h3 i (by omega)
   have e:off+(i+1)=off+1+i:=by omega
   exact ⟨by rw [e];exact q1,by rw [e];simpa [nthD] using q2⟩
theorem Qh4 (S:Sim P B W0 d σ a w G) {d' s b q:Nat} (hb:G.blk d' s=some b) (h:σ.has (.cell d' s q)=true):
  ∃u,w.cell? (Qas b q)=some u∧u.oneCell'=true∧ARep P w G (.cell d' s q) (Qbm σ.mem d' s q) u:=by
 obtain ⟨cs,vs,T,fz,hbox,R⟩:=S.mem.blk_box hb
 simp only [St.has,hbox,decide_eq_true_eq] at h
 obtain ⟨hr,h⟩:=QkH h
 obtain ⟨u,q1,q2,q3⟩:=(R.rep.plain hr).2 q h
 refine ⟨u, ?_,q2,by simpa [Qbm,hbox] using q3⟩
 simp [World.cell?,R.cells (Qbw hr)]
 simpa using q1
theorem Qew {f:List (List CV)→List Loc→Option β} {e:TypeId} {d' s:Nat} (h:(rowM e d' s).exec call σ acc f=some r):
  ∃l,f l (.box d' s::acc)=some r∧box? σ.mem d' s=some [.row e l]∧e≠mapE:=by
 simp only [rowM,M.exec] at h
 obtain ⟨hne,h⟩:=Qaf h
 have hne:e≠mapE:=by simpa using hne
 obtain ⟨_,h⟩:=Qaf h
 have key:∀v,QbV σ.mem d' s=v→(match v with| .row e' l=>M.chk (e'==e) (M.ret l)|_=>(M.fail:M (List (List CV)))).exec call σ (.box d' s::acc) f=some r→
   ∃l,f l (.box d' s::acc)=some r∧box? σ.mem d' s=some [.row e l]∧e≠mapE:=by
  intro v hv h
  cases v with
  |row e1 l1=>
   simp only [M.exec] at h
   obtain ⟨he,h2⟩:=Qaf h
   have he:=eq_of_beq he
   subst he
   refine ⟨l1,h2, ?_,hne⟩
   unfold QbV at hv
   split at hv
   ·rename_i hbx;cases hv;exact hbx
   ·cases hv
  |_=>simp [M.exec] at h
 exact key _ rfl h
structure RowRep (P:Program) (w:World) (G:Gh) (e:TypeId) (l:List (List CV)) (b:Nat):Prop where
 es:∀c∈l,c.length=P.cellsOf e
 rep:∀i c,l[i]?=some c→∀j z,c[j]?=some z→∃u,w.cell? (Qas b (i*P.cellsOf e+j))=some u∧u.oneCell'=true∧CRep w G.hw z u
theorem QoV {es:Nat}:∀{l:List (List CV)},(∀c∈l,c.length=es)→∀{i:Nat} {c:List CV},l[i]?=some c→∀{j:Nat} {z:CV},c[j]?=some z→l.flatten[i*es+j]?=some z
 | [],_,i,c,hi,_,_,_=>by simp at hi
 |x::l,h,i,c,hi,j,z,hj=>by
  have hx:=h x (by simp)
  cases i with
  |zero=>
   simp only [List.getElem?_cons_zero,Option.some.injEq] at hi
   subst hi
   simp only [List.flatten_cons,Nat.zero_mul,Nat.zero_add]
   rw [List.getElem?_append_left (List.getElem?_eq_some_iff.1 hj).1];exact hj
  |succ i=>
   have ih:=QoV (l:=l) (fun c hc=>h c (by simp [hc])) (i:=i) (by simpa using hi) hj
   simp only [List.flatten_cons]
   rw [List.getElem?_append_right (by rw [hx,Nat.add_mul];omega),hx,←ih]
   congr 1
   rw [Nat.add_mul];omega
theorem BoxRep.row {e:TypeId} {l:List (List CV)} {d' s b:Nat} {vs:Array Value} {T:TypeId} {fz:Nat×Nat} (R:BoxRep P B w G d' s [.row e l] b vs T fz) (hne:e≠mapE):RowRep P w G e l b:=by
 obtain ⟨_,h1,h2⟩:=R.rep.len.2 e l rfl hne
 refine ⟨h1,fun i c hi j z hj=> ?_⟩
 have hf:=QoV h1 hi hj
 have hx:xp [AV.row e l]=l.flatten.map .val:=rfl
 have hlt:=(List.getElem?_eq_some_iff.1 hf).1
 obtain ⟨u,q1,q2,q3⟩:=R.rep.rep (i*P.cellsOf e+j) (by rw [hx,List.length_map];exact hlt)
 refine ⟨u, ?_,q2, ?_⟩
 ·simp [World.cell?,R.cells (QeB hne)]
  simpa using q1
 ·rw [hx,Qar,List.getElem?_map,hf] at q3
  simpa only [Option.map_some,Option.getD_some,ARep] using q3
theorem Mem.row {mem:MemT} (M:Mem P B W0 w G mem) {e:TypeId} {l:List (List CV)} {d' s b:Nat} (hb:G.blk d' s=some b) (h:box? mem d' s=some [.row e l]) (hne:e≠mapE):RowRep P w G e l b:=by
 obtain ⟨b',vs,T,fz,R⟩:=M.box d' s _ h
 have:b'=b:=by have:=R.blk.symm.trans hb;simpa using this
 subst this
 exact R.row hne
theorem QyJ (S:Sim P B W0 d σ a w G) {t:TypeId} {x:Operand} (ho:o.op= .load t x) {k:List W→List Loc→Option β}
  (h:(opM P d ops o).exec call σ acc k=some r):OpDone P B W0 d o σ a w G k r:=by
 unfold opM at h
 rw [ho] at h
 simp only [M.exec_bind'] at h
 obtain ⟨v,acc',h,hv⟩:=QaC S _ h
 unfold Qyn at h
 simp only [M.exec] at h
 obtain ⟨hu,h⟩:=Qaf h
 split at h
 ·
  rename_i d' s off _
  simp only [ARep] at hv
  obtain ⟨b,hb,hx⟩:=hv
  split at h
  ·rename_i hagg
   rw [M.exec_bind] at h
   obtain ⟨cs,acc2,h,hl,hc⟩:=Qh0 h
   simp only [M.exec] at h
   have:∃us:List Value,us.length=P.cellsOf t∧∀i,i<P.cellsOf t→∃u,us[i]?=some u∧w.cell? (Qas b (off+i))=some u∧u.oneCell'=true∧ARep P w G (.cell d' s (off+i)) (Qbm σ.mem d' s (off+i)) u:=by
    have all:∀i,i<P.cellsOf t→∃u,w.cell? (Qas b (off+i))=some u∧u.oneCell'=true∧ARep P w G (.cell d' s (off+i)) (Qbm σ.mem d' s (off+i)) u:=
     fun i hi=>Qh4 S hb (hc i hi).1
    refine ⟨(List.range (P.cellsOf t)).map fun i=>(w.cell? (Qas b (off+i))).getD undef,by simp,fun i hi=> ?_⟩
    obtain ⟨u,q1,q2,q3⟩:=all i hi
    exact ⟨u,by simp [hi,q1],q1,q2,q3⟩
   obtain ⟨us,hul,hus⟩:=this
   have hcells:Cells P w G (fun i=> .cell d' s (off+i)) cs us:=by
    refine ⟨by rw [hul,hl],fun i hi=> ?_⟩
    obtain ⟨u,q1,q2,q3,q4⟩:=hus i (by omega)
    exact ⟨u,q1,q3,by rw [(hc i (by omega)).2];exact q4⟩
   refine OpDone.pure (x:= .agg us.toArray) S h ?_ fun t _=>QcZ hcells _
   have hload:=run_loadCells_list (P:=P) w (Qas b off) us (fun j u hj=>by
    have hj':j<us.length:=(List.getElem?_eq_some_iff.1 hj).1
    obtain ⟨u',q1,q2,_⟩:=hus j (by omega)
    rw [Qbi,q2,←q1,hj])
   rw [hul] at hload
   simp [execOp,ho,hx,Instr.loadAt,Instr.sureAddr,loadVar,Qct hu,hagg,Qbz hu,hload]
  ·rename_i hagg
   simp only [M.exec] at h
   obtain ⟨h0,h⟩:=Qaf h
   obtain ⟨u,q1,q2,q3⟩:=Qh4 S hb h0
   have hrun:(execOp a.eval o).run P w= .ok (.value u) w:=by
    simp [execOp,ho,hx,Instr.loadAt,Instr.sureAddr,loadVar,Qct hu,hagg,q1]
   split at h
   ·rename_i hown
    simp only [Bool.and_eq_true] at hown
    obtain ⟨G',S',K⟩:=S.takeCell o h0 q3 (by simpa [St.get] using hown.2)
    exact OpDone.value h hrun S' K
   ·exact OpDone.pure S h hrun fun t _=>by simpa [St.get] using q3.copy
 ·
  rename_i c off _
  simp only [ARep] at hv
  obtain ⟨b,o',hx,h1,h2⟩:=hv
  split at h
  ·rename_i hagg
   rw [M.exec_bind] at h
   obtain ⟨h,h3⟩:=Qi8 h
   simp only [M.exec] at h
   by_cases hoff:off≤c.length
   ·have hlen:((c.drop off).take (P.cellsOf t)).length=P.cellsOf t:=by simp;omega
    have:∃us:List Value,us.length=P.cellsOf t∧∀i,i<P.cellsOf t→∃u z,us[i]?=some u∧((c.drop off).take (P.cellsOf t))[i]?=some z∧w.cell? (Qas b (o'+off+i))=some u∧u.oneCell'=true∧CRep w G.hw z u:=by
     have all:∀i,i<P.cellsOf t→∃u z,((c.drop off).take (P.cellsOf t))[i]?=some z∧w.cell? (Qas b (o'+off+i))=some u∧u.oneCell'=true∧CRep w G.hw z u:=by
      intro i hi
      have hz:((c.drop off).take (P.cellsOf t))[i]?=some (c[off+i]'(by omega)):=by
       rw [List.getElem?_take,if_pos hi,List.getElem?_drop];simp
      obtain ⟨u,q1,q2,q3⟩:=h2.get (i:=off+i) (c:=c[off+i]'(by omega)) (by simp)
      exact ⟨u,_,hz,by rw [Nat.add_assoc];exact q1,q2,q3⟩
     refine ⟨(List.range (P.cellsOf t)).map fun i=>(w.cell? (Qas b (o'+off+i))).getD undef,by simp,fun i hi=> ?_⟩
     obtain ⟨u,z,q0,q1,q2,q3⟩:=all i hi
     exact ⟨u,z,by simp [hi,q1],q0,q1,q2,q3⟩
    obtain ⟨us,hul,hus⟩:=this
    have hcells:Cells P w G (fun _=> .none) (((c.drop off).take (P.cellsOf t)).map AV.val) us:=by
     refine ⟨by rw [hul,List.length_map,hlen],fun i hi=> ?_⟩
     obtain ⟨u,z,q1,q2,q3,q4,q5⟩:=hus i (by rw [List.length_map,hlen] at hi;exact hi)
     refine ⟨u,q1,q4, ?_⟩
     rw [Qar,List.getElem?_map,q2]
     simpa only [ARep,Option.map_some,Option.getD_some] using q5
    refine OpDone.pure (x:= .agg us.toArray) S h ?_ fun t _=>QcZ hcells _
    have hload:=run_loadCells_list (P:=P) w (Qas b (o'+off)) us (fun j u hj=>by
     have hj':j<us.length:=(List.getElem?_eq_some_iff.1 hj).1
     obtain ⟨u',z,q1,_,q2,_⟩:=hus j (by omega)
     rw [Qbi,q2,←q1,hj])
    rw [hul] at hload
    simp [execOp,ho,hx,Instr.loadAt,Instr.sureAddr,loadVar,Qct hu,hagg,Qbz hu,hload]
   ·
    have hz:P.cellsOf t=0:=by omega
    rw [hz] at h
    simp only [List.take_zero,List.map_nil] at h
    refine OpDone.pure (x:= .agg #[]) S h ?_ fun t _=>QcZ (pl:=fun _=> .none) Cells.nil _
    have hload:=run_loadCells_list (P:=P) w (Qas b (o'+off)) [] (fun j u hj=>by simp at hj)
    simp only [List.length_nil] at hload
    simp [execOp,ho,hx,Instr.loadAt,Instr.sureAddr,loadVar,Qct hu,hagg,Qbz hu,hz,hload]
  ·rename_i hagg
   simp only [M.exec] at h
   obtain ⟨z,hz,h⟩:=Qag h
   obtain ⟨u,q1,q2,q3⟩:=h2.get hz
   refine OpDone.pure (x:=u) S h ?_ fun t _=>by simpa only [ARep] using q3
   simp [execOp,ho,hx,Instr.loadAt,Instr.sureAddr,loadVar,Qct hu,hagg,q1]
 ·
  rename_i e d' s i off _
  simp only [ARep] at hv
  obtain ⟨b,hb,hx⟩:=hv
  rw [M.exec_bind] at h
  obtain ⟨l,h,hbx,hme⟩:=Qew h
  have RR:=S.mem.row hb hbx hme
  simp only [M.exec] at h
  obtain ⟨c,hc,h⟩:=Qag h
  have rep:=RR.rep i c hc
  split at h
  ·rename_i hagg
   rw [M.exec_bind] at h
   obtain ⟨h,h3⟩:=Qi8 h
   simp only [M.exec] at h
   by_cases hoff:off≤c.length
   ·have hlen:((c.drop off).take (P.cellsOf t)).length=P.cellsOf t:=by simp;omega
    have:∃us:List Value,us.length=P.cellsOf t∧∀j,j<P.cellsOf t→∃u z,us[j]?=some u∧((c.drop off).take (P.cellsOf t))[j]?=some z∧w.cell? (Qas b (i*P.cellsOf e+off+j))=some u∧u.oneCell'=true∧CRep w G.hw z u:=by
     have all:∀j,j<P.cellsOf t→∃u z,((c.drop off).take (P.cellsOf t))[j]?=some z∧w.cell? (Qas b (i*P.cellsOf e+off+j))=some u∧u.oneCell'=true∧CRep w G.hw z u:=by
      intro j hj
      have hz:((c.drop off).take (P.cellsOf t))[j]?=some (c[off+j]'(by omega)):=by
       rw [List.getElem?_take,if_pos hj,List.getElem?_drop];simp
      obtain ⟨u,q1,q2,q3⟩:=rep (off+j) (c[off+j]'(by omega)) (by simp)
      exact ⟨u,_,hz,by rw [Nat.add_assoc];exact q1,q2,q3⟩
     refine ⟨(List.range (P.cellsOf t)).map fun j=>(w.cell? (Qas b (i*P.cellsOf e+off+j))).getD undef,by simp,fun j hj=> ?_⟩
     obtain ⟨u,z,q0,q1,q2,q3⟩:=all j hj
     exact ⟨u,z,by simp [hj,q1],q0,q1,q2,q3⟩
    obtain ⟨us,hul,hus⟩:=this
    have hcells:Cells P w G (fun _=> .none) (((c.drop off).take (P.cellsOf t)).map AV.val) us:=by
     refine ⟨by rw [hul,List.length_map,hlen],fun j hj=> ?_⟩
     obtain ⟨u,z,q1,q2,q3,q4,q5⟩:=hus j (by rw [List.length_map,hlen] at hj;exact hj)
     refine ⟨u,q1,q4, ?_⟩
     rw [Qar,List.getElem?_map,q2]
     simpa only [ARep,Option.map_some,Option.getD_some] using q5
    refine OpDone.pure (x:= .agg us.toArray) S h ?_ fun t _=>QcZ hcells _
    have hload:=run_loadCells_list (P:=P) w (Qas b (i*P.cellsOf e+off)) us (fun j u hj=>by
     have hj':j<us.length:=(List.getElem?_eq_some_iff.1 hj).1
     obtain ⟨u',z,q1,_,q2,_⟩:=hus j (by omega)
     rw [Qbi,q2,←q1,hj])
    rw [hul] at hload
    simp [execOp,ho,hx,Instr.loadAt,Instr.sureAddr,loadVar,Qct hu,hagg,Qbz hu,hload]
   ·have hz:P.cellsOf t=0:=by omega
    rw [hz] at h
    simp only [List.take_zero,List.map_nil] at h
    refine OpDone.pure (x:= .agg #[]) S h ?_ fun t _=>QcZ (pl:=fun _=> .none) Cells.nil _
    have hload:=run_loadCells_list (P:=P) w (Qas b (i*P.cellsOf e+off)) [] (fun j u hj=>by simp at hj)
    simp only [List.length_nil] at hload
    simp [execOp,ho,hx,Instr.loadAt,Instr.sureAddr,loadVar,Qct hu,hagg,Qbz hu,hz,hload]
  ·rename_i hagg
   simp only [M.exec] at h
   obtain ⟨z,hz,h⟩:=Qag h
   obtain ⟨u,q1,q2,q3⟩:=rep off z hz
   refine OpDone.pure (x:=u) S h ?_ fun t _=>by simpa only [ARep] using q3
   simp [execOp,ho,hx,Instr.loadAt,Instr.sureAddr,loadVar,Qct hu,hagg,q1]
 ·simp [M.exec] at h
theorem Cells.drop {pl:Nat→Place} {cs:List AV} {us:List Value} (h:Cells P w G pl cs us) (n:Nat):Cells P w G (fun i=>pl (n+i)) (cs.drop n) (us.drop n):=by
 refine ⟨by simp [h.len],fun i hi=> ?_⟩
 simp only [List.length_drop] at hi
 obtain ⟨u,q1,q2,q3⟩:=h.rep (n+i) (by omega)
 refine ⟨u,by rw [List.getElem?_drop];exact q1,q2, ?_⟩
 rw [Qar,List.getElem?_drop,←Qar]
 exact q3
theorem Cells.take {pl:Nat→Place} {cs:List AV} {us:List Value} (h:Cells P w G pl cs us) (n:Nat):Cells P w G pl (cs.take n) (us.take n):=by
 refine ⟨by simp [h.len],fun i hi=> ?_⟩
 simp only [List.length_take] at hi
 obtain ⟨u,q1,q2,q3⟩:=h.rep i (by omega)
 refine ⟨u,by rw [List.getElem?_take,if_pos (by omega)];exact q1,q2, ?_⟩
 rw [Qar,List.getElem?_take,if_pos (by omega),←Qar]
 exact q3
theorem QxZ (S:Sim P B W0 d σ a w G) {t:TypeId} {x:Operand} {f:Nat} (ho:o.op= .field t x f) {k:List W→List Loc→Option β}
  (h:(opM P d ops o).exec call σ acc k=some r):OpDone P B W0 d o σ a w G k r:=by
 unfold opM at h
 rw [ho] at h
 simp only [M.exec_bind'] at h
 obtain ⟨v,acc',h,hv⟩:=QaC S _ h
 simp only [M.exec] at h
 obtain ⟨p,hp,h⟩:=Qag h
 obtain ⟨hu,h⟩:=Qaf h
 rw [M.exec_bind] at h
 obtain ⟨cs,h,hl,hc,_,hx⟩:=Qeh hv h
 obtain ⟨us,hx⟩:=hx rfl
 rw [hx] at hc
 simp only [Value.cells,if_true] at hc
 unfold QnN at hp
 split at hp
 ·rename_i fs ht
  simp only [Option.map_eq_some_iff] at hp
  obtain ⟨fd,hfd,rfl⟩:=hp
  dsimp only at hu h
  split at h
  ·rename_i hagg
   simp only [M.exec] at h
   have hc2:=(hc.drop fd.offset).take (P.cellsOf fd.type)
   refine OpDone.pure (x:= .agg ((us.drop fd.offset).take (P.cellsOf fd.type)).toArray) S h ?_ fun t _=>QcZ hc2 _
   simp [execOp,ho,hx,Instr.field,run_underlying ht,hfd,asAgg,part,Qct hu,hagg,Qbz hu,List.extract_eq_take_drop]
  ·rename_i hagg
   simp only [M.exec] at h
   obtain ⟨hlt,h⟩:=Qaf h
   obtain ⟨u,q1,q2,q3⟩:=hc.rep fd.offset (by simpa using hlt)
   refine OpDone.pure (x:=u) S h ?_ fun t _=>q3.copy
   simp [execOp,ho,hx,Instr.field,run_underlying ht,hfd,asAgg,part,Qct hu,hagg,q1]
 ·simp at hp
theorem QlY (S:Sim P B W0 d σ a w G):∀{l:List Operand} {acc:List Loc} {f:List AV→List Loc→Option β},(opds l).exec call σ acc f=some r→
  ∃vs acc',f vs acc'=some r∧vs.length=l.length∧∀i x,l[i]?=some x→ARep P w G (QcF d x) (nthD .any vs i) (a.eval x)
 | [],acc,f,h=>⟨[],acc,by simpa [opds,M.exec] using h,rfl,fun i x hi=>by simp at hi⟩
 |x::l,acc,f,h=>by
  simp only [opds] at h
  rw [M.exec_bind'] at h
  obtain ⟨v,acc1,h,hv⟩:=QaC S _ h
  rw [M.exec_bind'] at h
  obtain ⟨vs,acc2,h,hl,hr⟩:=QlY S (f:=fun vs acc'=>f (v::vs) acc') h
  refine ⟨_,_,h,by simp [hl],fun i y hi=> ?_⟩
  cases i with
  |zero=>simp at hi;subst hi;simpa [nthD] using hv
  |succ i=>simpa [nthD] using hr i y (by simpa using hi)
theorem ARepL.of:∀{l:List Operand} {vs:List AV},vs.length=l.length→(∀i x,l[i]?=some x→ARep P w G (QcF d x) (nthD .any vs i) (a.eval x))→ARepL P w G (vs.map AV.copy) (l.map a.eval)
 | [],vs,h,_=>by
  have:vs= []:=List.eq_nil_of_length_eq_zero (by simpa using h)
  subst this;simp [ARepL]
 |x::l,vs,h,hr=>by
  cases vs with
  |nil=>simp at h
  |cons v vs=>
   simp only [List.map_cons,ARepL]
   refine ⟨_,_,rfl, ?_,ARepL.of (by simpa using h) fun i y hi=> ?_⟩
   ·have:=hr 0 x (by simp)
    simp only [nthD] at this
    exact this.copy
   ·have:=hr (i+1) y (by simpa using hi)
    simpa [nthD] using this
theorem QuQ (S:Sim P B W0 d σ a w G) {g:Fn} {first captured:Array Operand} (ho:o.op= .makeFunc g first captured) {k:List W→List Loc→Option β}
  (h:(opM P d ops o).exec call σ acc k=some r):OpDone P B W0 d o σ a w G k r:=by
 unfold opM at h
 rw [ho] at h
 simp only at h
 split at h
 ·rename_i f hfirst
  simp only [M.exec_bind'] at h
  obtain ⟨vs,acc',h,hl,hr⟩:=QlY S h
  have hrep:=ARepL.of (l:=captured.toList) hl hr
  have hf:first= #[]:=by simpa using hfirst
  have hrun:(execOp a.eval o).run P w= .ok (.value (.func (.func f) #[] (captured.toList.map a.eval).toArray)) w:=by
   rw [show (captured.toList.map a.eval).toArray=captured.map a.eval from by apply Array.ext';simp]
   simp [execOp,ho,hf,Instr.makeFunc]
  split at h
  ·simp only [M.exec] at h
   have:captured.toList= []:=List.eq_nil_of_length_eq_zero (by rw [←hl];rfl)
   rw [this] at hrun
   exact OpDone.pure S h hrun fun t _=>by simp [ARep,CRep]
  ·simp only [M.exec] at h
   exact OpDone.pure S h hrun fun t _=>by simp only [ARep];exact ⟨_,rfl,hrep⟩
 ·simp [M.exec] at h
theorem Qmj {t e:TypeId} (ht:P.underlying t=some (.slice e)) (ty:TypeId) (ad:Option Addr) (n c:Nat) (w:World):
  (Builtin.len_ #[t] ty #[.slice ad n c]).run P w= .ok (.int .i64 n) w:=by
 simp [Builtin.len_,run_underlying ht,goInt]
theorem Qrk {t:TypeId} (ht:P.underlying t=some .string) (ty:TypeId) (s:ByteArray) (w:World):
  (Builtin.len_ #[t] ty #[.string s]).run P w= .ok (.int .i64 s.size) w:=by
 simp [Builtin.len_,run_underlying ht,goInt]
theorem QvM (S:Sim P B W0 d σ a w G) {c:Call} {b:Builtin} (ho:o.op= .call c) (hb:c.callee= .builtin b) (hna:b≠ .append∧b≠ .copy∧b≠ .clear) {k:List W→List Loc→Option β}
  (h:(opM P d ops o).exec call σ acc k=some r):OpDone P B W0 d o σ a w G k r:=by
 unfold opM at h
 rw [ho] at h
 simp only [hb] at h
 unfold Qjw at h
 have resolve_eq:execOp a.eval o=invoke (.builtin b c.argTypes o.type (c.args.map fun| .const _=>true|_=>false)) (c.args.map a.eval):=by
  unfold execOp
  rw [ho]
  simp only [resolve,hb]
  rfl
 split at h
 ·
  rename_i x t ts hargs htypes
  simp only [M.exec] at h
  obtain ⟨hts,h⟩:=Qaf h
  rw [M.exec_bind] at h
  obtain ⟨v,acc',h,hv⟩:=QaC S _ h
  rw [M.exec_bind] at h
  have ha:c.args= #[x]:=by apply Array.ext';simpa using hargs
  have htt:c.argTypes= #[t]:=by
   apply Array.ext'
   have:ts= []:=by simpa using hts
   rw [htypes,this]
  unfold lenM at h
  split at h
  ·
   rename_i e0 d0 s0 off len cap
   split at h
   ·rename_i e ht
    simp only [M.exec] at h
    simp only [ARep] at hv
    obtain ⟨b,ad,c',q,q1,q2,_⟩:=hv
    refine OpDone.pure (x:= .int .i64 len) S h ?_ fun t _=>by simp only [ARep,CRep]
    rw [resolve_eq]
    simp [invoke,builtin,ha,htt,q2,Qmj ht]
   ·simp [M.exec] at h
  rw [M.exec_bind] at h
  obtain ⟨cv,h,hc⟩:=QaH hv h
  split at h
  ·rename_i ht
   simp only [M.exec] at h
   obtain ⟨s,hs,h⟩:=Qag h
   rw [QcU hs] at hc
   simp only [CRep] at hc
   refine OpDone.pure (x:= .int .i64 s.length) S h ?_ fun t _=>by simp only [ARep,CRep]
   rw [resolve_eq]
   simp [invoke,builtin,ha,htt,hc,Qrk ht,ByteArray.size]
  ·rename_i e ht
   simp only [M.exec] at h
   obtain ⟨p,hp,h⟩:=Qag h
   rw [Qfq hp] at hc
   have:∃ad cap,a.eval x= .slice ad p.2.length cap:=by
    simp only [CRep] at hc
    rcases hc with ⟨_,q2,q3⟩|⟨_,b,off,cap,es,⟨_,q2,_⟩,_⟩
    ·exact ⟨none,0,by rw [q3,q2];rfl⟩
    ·exact ⟨_,_,q2⟩
   obtain ⟨ad,cap,hx⟩:=this
   refine OpDone.pure (x:= .int .i64 p.2.length) S h ?_ fun t _=>by simp only [ARep,CRep]
   rw [resolve_eq]
   simp [invoke,builtin,ha,htt,hx,Qmj ht]
  ·simp [M.exec] at h
 ·exact (hna.1 rfl).elim
 ·exact (hna.2.1 rfl).elim
 ·exact (hna.2.2 rfl).elim
 ·
  rename_i x y t ts hargs htypes
  split at h
  ·rename_i q ht
   simp only [M.exec_bind'] at h
   obtain ⟨v,acc',h,hv⟩:=QaC S _ h
   obtain ⟨u,acc',h,hu⟩:=QaC S _ h
   obtain ⟨cv,h,hc⟩:=QaH hv h
   obtain ⟨cu,h,hcu⟩:=QaH hu h
   simp only [M.exec] at h
   obtain ⟨n,hn,h⟩:=Qag h
   obtain ⟨m,hm,h⟩:=Qag h
   rw [QbW hn] at hc
   rw [QbW hm] at hcu
   simp only [CRep] at hc hcu
   have ha:c.args= #[x,y]:=by apply Array.ext';simpa using hargs
   refine OpDone.pure (x:= .int q (if m<n then m else n)) S h ?_ fun t _=>by simp only [ARep,CRep]
   rw [resolve_eq]
   simp [invoke,builtin,ha,hc,hcu,Builtin.min_,Builtin.min2]
  ·simp [M.exec] at h
 ·
  rename_i x y t ts hargs htypes
  split at h
  ·rename_i q ht
   simp only [M.exec_bind'] at h
   obtain ⟨v,acc',h,hv⟩:=QaC S _ h
   obtain ⟨u,acc',h,hu⟩:=QaC S _ h
   obtain ⟨cv,h,hc⟩:=QaH hv h
   obtain ⟨cu,h,hcu⟩:=QaH hu h
   simp only [M.exec] at h
   obtain ⟨n,hn,h⟩:=Qag h
   obtain ⟨m,hm,h⟩:=Qag h
   rw [QbW hn] at hc
   rw [QbW hm] at hcu
   simp only [CRep] at hc hcu
   have ha:c.args= #[x,y]:=by apply Array.ext';simpa using hargs
   refine OpDone.pure (x:= .int q (if m>n then m else n)) S h ?_ fun t _=>by simp only [ARep,CRep]
   rw [resolve_eq]
   simp [invoke,builtin,ha,hc,hcu,Builtin.max_,Builtin.max2]
  ·simp [M.exec] at h
 ·simp [M.exec] at h
end Go.Am
