/- Arguments of chapter 35, opened: bookings, numbers, texts. Conditions: none. -/
import Derived.Test.YtigmcfhmpcajlaaGreatDoorJc
import Derived.Test.YtigmcfhmpcajlaaGreatDoorCq
namespace Go.Proofs.YtigmcfhmpcajlaaGreatDoor
open Go.ChangeShapes Go.WideShapes Go.ChangeAt Go.RowKit Go.Am
theorem QlK {α:Type} {P:Program} {n:Nat} {e:TypeId} {enc:α→List CV} {good:α→Prop} (h:∀x,Ty P n e x→∃a,x=enc a∧good a) {xs:List (List CV)} (hx:∀x∈xs,Ty P n e x):∃l:List α,xs=l.map enc∧∀a∈l,good a:=by
 induction xs with
 |nil=>exact ⟨[],rfl,fun _ h=>by cases h⟩
 |cons x xs ih=>
  obtain ⟨l,rfl,hl⟩:=ih fun y hy=>hx y (List.mem_cons_of_mem _ hy)
  obtain ⟨a,rfl,ha⟩:=h x (hx x (List.mem_cons_self ..))
  refine ⟨a::l,rfl,fun w hw=> ?_⟩
  rcases List.mem_cons.1 hw with rfl|hw
  ·exact ha
  ·exact hl w hw
theorem QAL {n b:Nat} (h:n*b≤reachBytes) (hb:1≤b):n≤281474976710656:=by
 have:=QjG
 have:n*1≤n*b:=Nat.mul_le_mul (Nat.le_refl _) hb
 omega
theorem Qrg {α:Type} {enc:α→List CV} {l:List α} (h:l.map enc= []):l= []:=List.map_eq_nil_iff.1 h
def I64 (x:Int):Prop:=-9223372036854775808≤x∧x≤9223372036854775807
def Qyb (s:Sg):Prop:=s.car.length≤281474976710656∧s.fr.length≤281474976710656∧s.to.length≤281474976710656
def Qyh (s:Sg):Prop:=I64 s.num∧I64 s.day∧I64 s.dep∧I64 s.arr∧I64 s.st∧I64 s.mar
set_option maxRecDepth 100000 in
theorem QAt {n:Nat} (x:List CV) (h:Ty Tryz.prog (n+2) 89 x):∃p:Pe,x=peE p∧PeOk p:=by
 obtain ⟨p1,r1,rfl,h1,hr⟩:=Qbb (Ty.struct (ts:= [9,9,9]) Tryz.underlying89 rfl h)
 obtain ⟨p2,r2,rfl,h2,hr⟩:=Qbb hr
 obtain ⟨p3,r3,rfl,h3,hr⟩:=Qbb hr
 obtain rfl:=Qjn hr
 obtain ⟨a,rfl,ha⟩:=Ty.str Tryz.underlying9 h1
 obtain ⟨b,rfl,hb⟩:=Ty.str Tryz.underlying9 h2
 obtain ⟨c,rfl,hc⟩:=Ty.str Tryz.underlying9 h3
 have r:=QjG
 exact ⟨⟨a,b,c⟩,rfl,Nat.le_trans ha r,Nat.le_trans hb r,Nat.le_trans hc r⟩
set_option maxRecDepth 100000 in
theorem QAm {n:Nat} (x:List CV) (h:Ty Tryz.prog (n+2) 70 x):∃s:Sv,x=svE s∧(s.cd.length≤281474976710656∧(I64 s.pe∧I64 s.sg)):=by
 obtain ⟨p1,r1,rfl,h1,hr⟩:=Qbb (Ty.struct (ts:= [9,3,3]) Tryz.underlying70 rfl h)
 obtain ⟨p2,r2,rfl,h2,hr⟩:=Qbb hr
 obtain ⟨p3,r3,rfl,h3,hr⟩:=Qbb hr
 obtain rfl:=Qjn hr
 obtain ⟨a,rfl,ha⟩:=Ty.str Tryz.underlying9 h1
 obtain ⟨b,rfl,hb⟩:=Ty.int Tryz.underlying3 h2
 obtain ⟨c,rfl,hc⟩:=Ty.int Tryz.underlying3 h3
 exact ⟨⟨a,b,c⟩,rfl,Nat.le_trans ha QjG,hb,hc⟩
set_option maxRecDepth 100000 in
theorem QAd {n:Nat} (x:List CV) (h:Ty Tryz.prog (n+4) 39 x):∃s:Sg,x=sgE s∧(Qyb s∧Qyh s):=by
 obtain ⟨p1,r1,rfl,h1,hr⟩:=Qbb (Ty.struct (ts:= [37,3,3]) Tryz.underlying39 rfl h)
 obtain ⟨p2,r2,rfl,h2,hr⟩:=Qbb hr
 obtain ⟨p3,r3,rfl,h3,hr⟩:=Qbb hr
 obtain rfl:=Qjn hr
 obtain ⟨st,rfl,hst⟩:=Ty.int Tryz.underlying3 h2
 obtain ⟨mar,rfl,hmar⟩:=Ty.int Tryz.underlying3 h3
 obtain ⟨q1,s1,rfl,g1,gr⟩:=Qbb (Ty.struct (ts:= [35,9]) Tryz.underlying37 rfl h1)
 obtain ⟨q2,s2,rfl,g2,gr⟩:=Qbb gr
 obtain rfl:=Qjn gr
 obtain ⟨cls,rfl,hcls⟩:=Ty.str Tryz.underlying9 g2
 obtain ⟨z1,t1,rfl,k1,kr⟩:=Qbb (Ty.struct (ts:= [9,3,3,9,9,3,3]) Tryz.underlying35 rfl g1)
 obtain ⟨z2,t2,rfl,k2,kr⟩:=Qbb kr
 obtain ⟨z3,t3,rfl,k3,kr⟩:=Qbb kr
 obtain ⟨z4,t4,rfl,k4,kr⟩:=Qbb kr
 obtain ⟨z5,t5,rfl,k5,kr⟩:=Qbb kr
 obtain ⟨z6,t6,rfl,k6,kr⟩:=Qbb kr
 obtain ⟨z7,t7,rfl,k7,kr⟩:=Qbb kr
 obtain rfl:=Qjn kr
 obtain ⟨a,rfl,ha⟩:=Ty.str Tryz.underlying9 k1
 obtain ⟨b,rfl,hb⟩:=Ty.int Tryz.underlying3 k2
 obtain ⟨c,rfl,hc⟩:=Ty.int Tryz.underlying3 k3
 obtain ⟨d,rfl,hd⟩:=Ty.str Tryz.underlying9 k4
 obtain ⟨e,rfl,he⟩:=Ty.str Tryz.underlying9 k5
 obtain ⟨f,rfl,hf⟩:=Ty.int Tryz.underlying3 k6
 obtain ⟨g,rfl,hg⟩:=Ty.int Tryz.underlying3 k7
 have r:=QjG
 exact ⟨⟨a,b,c,d,e,f,g,cls,st,mar⟩,rfl,⟨Nat.le_trans ha r,Nat.le_trans hd r,Nat.le_trans he r⟩,hb,hc,hf,hg,hst,hmar⟩
structure BkOk (b:Bk):Prop where
 loc:b.loc.length≤281474976710656
 pn:b.pn=true→b.ps= []
 ps:∀p∈b.ps,PeOk p
 grp:I64 b.grp
 bn:b.bn=true→b.segs= []
 segs:∀s∈b.segs,Qyb s∧Qyh s
 rn:b.rn=true→b.svs= []
 svs:∀x∈b.svs,x.cd.length≤281474976710656∧(I64 x.pe∧I64 x.sg)
 lim:I64 b.lim
set_option maxRecDepth 100000 in
theorem QuE {c:CV} (h:ArgTy Tryz.prog 26 c):∃b:Bk,c= .agg (bkE b)∧BkOk b:=by
 obtain ⟨l,rfl,hs⟩:=ArgTy.struct (ts:= [9,22,3,23,24,3]) Tryz.underlying26 rfl h
 obtain ⟨p1,r1,rfl,h1,hr⟩:=Qbb hs
 obtain ⟨p2,r2,rfl,h2,hr⟩:=Qbb hr
 obtain ⟨p3,r3,rfl,h3,hr⟩:=Qbb hr
 obtain ⟨p4,r4,rfl,h4,hr⟩:=Qbb hr
 obtain ⟨p5,r5,rfl,h5,hr⟩:=Qbb hr
 obtain ⟨p6,r6,rfl,h6,hr⟩:=Qbb hr
 obtain rfl:=Qjn hr
 obtain ⟨loc,rfl,hloc⟩:=Ty.str Tryz.underlying9 h1
 obtain ⟨pn,xs,rfl,hpn,_,hxs⟩:=Ty.slice Tryz.underlying22 h2
 obtain ⟨grp,rfl,hgrp⟩:=Ty.int Tryz.underlying3 h3
 obtain ⟨bn,ys,rfl,hbn,_,hys⟩:=Ty.slice Tryz.underlying23 h4
 obtain ⟨rn,zs,rfl,hrn,_,hzs⟩:=Ty.slice Tryz.underlying24 h5
 obtain ⟨lim,rfl,hlim⟩:=Ty.int Tryz.underlying3 h6
 obtain ⟨ps,rfl,hps⟩:=QlK (enc:=peE) (fun x hx=>QAt (n:=4) x hx) hxs
 obtain ⟨segs,rfl,hsegs⟩:=QlK (enc:=sgE) (fun x hx=>QAd (n:=2) x hx) hys
 obtain ⟨svs,rfl,hsvs⟩:=QlK (enc:=svE) (fun x hx=>QAm (n:=4) x hx) hzs
 exact ⟨⟨loc,pn,ps,grp,bn,segs,rn,svs,lim⟩,rfl,⟨Nat.le_trans hloc QjG,fun h=>Qrg (hpn h),hps,hgrp,fun h=>Qrg (hbn h),hsegs,fun h=>Qrg (hrn h),hsvs,hlim⟩⟩
set_option maxRecDepth 100000 in
theorem Qzv {n:Nat} (x:List CV) (h:Ty Tryz.prog (n+1) 3 x):∃a:Int,x=icv a∧I64 a:=by
 obtain ⟨a,rfl,ha⟩:=Ty.int Tryz.underlying3 h
 exact ⟨a,rfl,ha⟩
set_option maxRecDepth 100000 in
theorem QAK {c:CV} (h:ArgTy Tryz.prog 27 c):∃(bn:Bool) (l:List Int),c= .list bn (l.map icv)∧∀x∈l,I64 x:=by
 obtain ⟨bn,xs,rfl,_,_,hxs⟩:=ArgTy.slice Tryz.underlying27 h
 obtain ⟨l,rfl,hl⟩:=QlK (enc:=icv) (fun x hx=>Qzv (n:=6) x hx) hxs
 exact ⟨bn,l,rfl,hl⟩
end Go.Proofs.YtigmcfhmpcajlaaGreatDoor
