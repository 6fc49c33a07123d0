/- Chapter 35: the reference's check of a booking gives the same violations. Conditions: as each says. -/
import Derived.Test.YtigmcfhmpcajlaaGreatDoorCq
import Derived.Test.YtigmcfhmpcajlaaGreatDoorBD
import Derived.Test.YtigmcfhmpcajlaaGreatDoorGx
set_option linter.unusedSimpArgs false
set_option linter.unusedVariables false
namespace Go.Proofs
open Go.Am
variable (lb:Nat)
theorem QsE (bn:Bool) (l:List Int) (hl:l.length≤1000000) (i:Int) (h0:0≤i) (h1:i<(l.length:Int)):Ret lb Qd4 [.list bn (l.map icv), .int .i64 i] (.bool (Qg6 l i)):=by
 refine .top rfl (.all fun n=> ?_)
 have hlen:(((l.map icv).length:Nat):Int)=(l.length:Int):=by simp
 have w1:IntKind.wrap .i64 (i-1)=i-1:=QaD (by omega) (by omega)
 have w2:IntKind.wrap .i64 (i+1)=i+1:=QaD (by omega) (by omega)
 have ai:=Qe2 h0 h1
 rw [Qpa,w1,w2,hlen]
 unfold Qg6
 by_cases hi:i>0
 ·have am:=Qe2 (l:=l) (i:=i-1) (by omega) (by omega)
  refine stT (decT hi) (stO _ am (stC rfl (stO _ rfl (stO _ ai (stC rfl (stO _ rfl (stO _ (QaE ..) (stO _ (QaE ..) ?_))))))))
  rw [decT hi]
  cases he:nthI l (i-1)==nthI l i with
  |true=>exact stT rfl rfl
  |false=>
   refine stF rfl ?_
   by_cases hj:i+1<(l.length:Int)
   ·have ap:=Qe2 (l:=l) (i:=i+1) (by omega) hj
    rw [decT hj]
    exact stT rfl (stO _ ap (stC rfl (stO _ rfl (stO _ ai (stC rfl (stO _ rfl (stO _ (QaE ..) (stO _ (QaE ..) rfl))))))))
   ·rw [decF hj]
    exact stF rfl rfl
 ·refine stF (decF hi) ?_
  rw [decF hi]
  by_cases hj:i+1<(l.length:Int)
  ·have ap:=Qe2 (l:=l) (i:=i+1) (by omega) hj
   rw [decT hj]
   exact stT rfl (stO _ ap (stC rfl (stO _ rfl (stO _ ai (stC rfl (stO _ rfl (stO _ (QaE ..) (stO _ (QaE ..) rfl))))))))
  ·rw [decF hj]
   exact stF rfl rfl
theorem Qwx (n yB:Nat) (bn:Bool) (l:List Int) (wj:Int) (hl:l.length≤1000000) (i:Nat) (hi:i<l.length):∀(d j:Nat),(j+d=l.length∨(d=0∧l.length≤j∧j≤1000002))→i+2≤j→∀k,d<k→
  QdI lb n k yB bn (l.map icv) wj ((i:Nat):Int) (j:Int)=if (decide (nthI l (i:Int)>0)&&Qha l (i:Int) j d)=true then some (.int .i64 18) else Qfx lb n yB bn (l.map icv) wj (IntKind.wrap .i64 ((i:Int)+1))
 |0,j,h,hj,k,hk=>by
  obtain ⟨k,rfl⟩:∃m,k=m+1:=⟨k-1,by omega⟩
  rw [QiU]
  refine stF (decF (by simp;omega)) ?_
  rw [QpM]
  simp [Qha]
 |d+1,j,h,hj,k,hk=>by
  obtain ⟨k,rfl⟩:∃m,k=m+1:=⟨k-1,by omega⟩
  have hw:IntKind.wrap .i64 ((j:Int)+1)=((j+1:Nat):Int):=by rw [QaD (by omega) (by omega)];omega
  have hw1:IntKind.wrap .i64 ((j:Int)-1)=(j:Int)-1:=QaD (by omega) (by omega)
  have ih:=Qwx n yB bn l wj hl i hi d (j+1) (.inl (by omega)) (by omega) k (by omega)
  have ai:=Qe2 (l:=l) (i:=(i:Int)) (by omega) (by omega)
  have aj:=Qe2 (l:=l) (i:=(j:Int)) (by omega) (by omega)
  have am:=Qe2 (l:=l) (i:=(j:Int)-1) (by omega) (by omega)
  rw [QiU,hw,hw1]
  refine stT (decT (by simp;omega)) (stO _ ai (stC rfl (stO _ rfl (stO _ (QaE ..) ?_))))
  cases hp:decide (nthI l (i:Int)>0) with
  |false=>
   rw [hp] at ih
   refine stF rfl (ih.trans ?_)
   simp
  |true=>
   rw [hp] at ih
   refine stT rfl (stO _ aj (stC rfl (stO _ rfl (stO _ ai (stC rfl (stO _ rfl (stO _ (QaE ..) (stO _ (QaE ..) ?_))))))))
   unfold Qha
   cases he:nthI l (j:Int)==nthI l (i:Int) with
   |false=>exact stF rfl (ih.trans (by simp))
   |true=>
    refine stT rfl (stO _ am (stC rfl (stO _ rfl (stO _ ai (stC rfl (stO _ rfl (stO _ (QaE ..) (stO _ (QaE ..) ?_))))))))
    cases hq:nthI l ((j:Int)-1) !=nthI l (i:Int) with
    |true=>exact stT rfl (by simp)
    |false=>exact stF rfl (ih.trans (by simp))
theorem QwN (n:Nat) (bn:Bool) (l:List Int) (wj:Int) (hl:l.length≤1000000) (hn:l.length<n) (hN:∀i∈upTo l.length,C lb n Qd4 [.list bn (l.map icv), .int .i64 i]=some (.bool (Qg6 l i))):∀(d i:Nat),i+d=l.length→∀k,d<k→
  Qfx lb n k bn (l.map icv) wj (i:Int)=some (.int .i64 (if badR l i d then 18 else 0))
 |0,i,h,k,hk=>by
  obtain ⟨k,rfl⟩:∃m,k=m+1:=⟨k-1,by omega⟩
  rw [QiW]
  refine stF (decF (by simp;omega)) ?_
  rw [QpZ];rfl
 |d+1,i,h,k,hk=>by
  obtain ⟨k,rfl⟩:∃m,k=m+1:=⟨k-1,by omega⟩
  have hw:IntKind.wrap .i64 ((i:Int)+1)=((i+1:Nat):Int):=by rw [QaD (by omega) (by omega)];omega
  have hw2:IntKind.wrap .i64 ((i:Int)+2)=((i+2:Nat):Int):=by rw [QaD (by omega) (by omega)];omega
  have ih:=QwN n bn l wj hl hn hN d (i+1) (by omega) k (by omega)
  have ai:=Qe2 (l:=l) (i:=(i:Int)) (by omega) (by omega)
  have h4:=Qwx lb n k bn l wj hl i (by omega) (l.length-(i+2)) (i+2) (by omega) (by omega) n (by omega)
  rw [hw,ih] at h4
  rw [QiW,hw2]
  refine stT (decT (by simp;omega)) (stO _ ai (stC rfl (stO _ rfl (stO _ (QaE ..) ?_))))
  unfold badR
  cases hp:decide (nthI l (i:Int)>0) with
  |false=>
   rw [hp] at h4
   exact stF rfl (h4.trans (by simp))
  |true=>
   rw [hp] at h4
   refine stT rfl (stO _ (hN (i:Int) (QeH.2 ⟨by omega,by omega⟩)) (stO _ (QaP _) ?_))
   cases hb:Qg6 l (i:Int) with
   |false=>exact stT rfl (by simp)
   |true=>
    refine stF rfl (h4.trans ?_)
    cases Qha l (i:Int) (i+2) (l.length-(i+2))<;>simp
theorem QmE (bn:Bool) (l:List Int) (hl:l.length≤1000000):Ret lb Qat [.list bn (l.map icv)] (.int .i64 (marE l)):=by
 rw [←Qzj]
 have hN:Evt fun n=>∀i∈upTo l.length,C lb n Qd4 [.list bn (l.map icv), .int .i64 i]=some (.bool (Qg6 l i)):=Evt.fin (upTo l.length) fun i hi=>QsE lb bn l hl i (QeH.1 hi).1 (QeH.1 hi).2
 refine .top rfl ((Evt.diag (Qd8 (enc:=icv) (l:=l) (P:=fun p t n k=>Qhr lb n k bn (l.map icv) (p.length:Int)=some (.int .i64 (if t.any (fun x=>decide (x<0)) then 2 else if badR l 0 l.length then 18 else 0))) (by omega)
  (Evt.imp2 hN (Evt.ge (l.length+1)) fun n h1 h2 k=>by
   rw [QiT]
   refine stF (decF (by simp)) ?_
   rw [QpN]
   exact QwN lb n bn l _ hl (by omega) h1 l.length 0 (by omega) n (by omega))
  (fun p y t h h1 h2 h3 ih=>ih.mono fun n hi k hk=>by
   rw [QiT,List.any_cons]
   refine stT (decT h1) (stO _ h2 (stC rfl (stO _ rfl (stO _ (QaE ..) ?_))))
   cases hy:decide (y<0) with
   |true=>exact stT rfl rfl
   |false=>
    refine stF rfl ?_
    rw [h3,hi k hk]
    rfl) l [] rfl)).mono fun n h=>by rw [Quj];exact h)
theorem Qkb (b:Bk) (hl:b.segs.length≤1000000):Ret lb Qbd [.agg (bkE b)] (.list b.segs.isEmpty ((mars b.segs).map icv)):=
 .top rfl ((Evt.diag (Qd8 (enc:=sgE) (l:=b.segs) (P:=fun p t n k=>QfL lb n k b.loc b.pn (b.ps.map peE) b.grp b.bn (b.segs.map sgE) b.rn (b.svs.map svE) b.lim p.isEmpty ((mars p).map icv) (p.length:Int)=some (.list b.segs.isEmpty ((mars b.segs).map icv))) (by omega)
  (.all fun n k=>by
   rw [Qhz]
   refine stF (decF (by simp)) ?_
   rw [Qoj])
  (fun p x t h h1 h2 h3 ih=>ih.mono fun n hi k hk=>by
   have hpl:p.length+(t.length+1)=b.segs.length:=by rw [←h];simp
   rw [Qhz]
   refine stT (decT h1) (stO _ h2 (stC rfl (stO _ rfl (stC rfl (stC (Qdj (by simp [mars];omega)) ?_)))))
   rw [h3]
   have:=hi k hk
   have e:(p.isEmpty&&false)=(p++ [x]).isEmpty:=by simp
   rw [e]
   simpa [mars,icv] using this) b.segs [] rfl)).mono fun n h=>by
   rw [show top lb n Qbd [.agg (bkE b)]=_ from QqX lb n b.loc b.pn (b.ps.map peE) b.grp b.bn (b.segs.map sgE) b.rn (b.svs.map svE) b.lim]
   exact h)
theorem Qsx:Ret lb QkN [] (.list false [[CV.str []], [CV.str [72,75]], [CV.str [72,76]], [CV.str [75,76]], [CV.str [84,75]], [CV.str [85,78]], [CV.str [85,67]], [CV.str [88,88]]]):= .top rfl (.all fun n=>Qs4 lb n)
theorem Qug (x:Int):Ret lb QlO [.int .i64 x] (Qji x):=
 .top rfl ((Qsx lb).mono fun n h=>by
  rw [Quq]
  unfold Qji
  by_cases h1:x≤0
  ·have:stOk x=false:=by simp [stOk];omega
   rw [this]
   exact stT (decT h1) rfl
  ·by_cases h2:x>7
   ·have:stOk x=false:=by simp [stOk];omega
    rw [this]
    exact stF (decF h1) (stT (decT h2) rfl)
   ·have h3:x=1∨x=2∨x=3∨x=4∨x=5∨x=6∨x=7:=by omega
    refine stF (decF h1) (stF (decF h2) (stO _ h (stO _ rfl ?_)))
    rcases h3 with rfl|rfl|rfl|rfl|rfl|rfl|rfl<;>exact stO _ rfl (stC rfl (stO _ rfl rfl)))
theorem Qy7 (s:Sg) (l:List Int) (hl:l.length≤3):Evt fun n=>QfR lb n s.car s.num s.day s.fr s.to s.dep s.arr s.cls s.st s.mar l.isEmpty (l.map icv)=some (errV (l++Qbt (stOk s.st) 10)):=
 (Qug lb s.st).mono fun n h=>by
  rw [Qob]
  refine stO _ h ?_
  unfold Qji
  cases stOk s.st with
  |true=>
   refine stO _ rfl (stO _ rfl (stO _ rfl (stO _ rfl (stO _ rfl (stF rfl ?_)))))
   show _=some (errV (l++ []))
   rw [List.append_nil];rfl
  |false=>
   refine stO _ rfl (stO _ rfl (stO _ rfl (stO _ rfl (stO _ rfl (stT rfl (stC (Qif (by omega)) ?_))))))
   rw [Qjm,Qjo l 10];rfl
theorem Qy1 (s:Sg) (hc:s.cls.length≤281474976710656) (l:List Int) (hl:l.length≤2):Evt fun n=>QdB lb n s.car s.num s.day s.fr s.to s.dep s.arr s.cls s.st s.mar l.isEmpty (l.map icv)=some (errV ((l++Qbt (Qdn s.cls) 16)++Qbt (stOk s.st) 10)):=by
 refine Evt.imp2 (QsI lb s.cls hc) (Qy7 lb s (l++Qbt (Qdn s.cls) 16) (by unfold Qbt;cases Qdn s.cls<;>simp<;>omega)) fun n h h3=> ?_
 rw [Qoa]
 refine stO _ h (stO _ (QaP _) ?_)
 cases hc:Qdn s.cls with
 |true=>
  rw [hc] at h3
  refine stF rfl ?_
  have e:l++Qbt true 16=l:=List.append_nil l
  rw [e] at h3⊢
  exact h3
 |false=>
  rw [hc] at h3
  refine stT rfl (stC (Qif (by omega)) ?_)
  rw [Qjm,Qjo l 16]
  exact h3
theorem Qzq (s:Sg) (hc:s.cls.length≤281474976710656) (l:List Int) (hl:l.length≤1):Evt fun n=>QdA lb n s.car s.num s.day s.fr s.to s.dep s.arr s.cls s.st s.mar l.isEmpty (l.map icv)=some (errV (((l++Qbt (Qd2 s) 13)++Qbt (Qdn s.cls) 16)++Qbt (stOk s.st) 10)):=by
 refine (Qy1 lb s hc (l++Qbt (Qd2 s) 13) (by unfold Qbt;cases Qd2 s<;>simp<;>omega)).mono fun n h=> ?_
 rw [Qn5]
 cases ht:Qd2 s with
 |true=>
  rw [ht] at h
  have e:l++Qbt true 13=l:=List.append_nil l
  rw [e] at h⊢
  simp only [Qd2,decide_eq_true_eq] at ht
  exact stF (decF (by omega)) (stF (decF (by omega)) (stF (decF (by omega)) h))
 |false=>
  rw [ht] at h
  simp only [Qd2,decide_eq_false_iff_not] at ht
  rw [Qjm,Qjo l 13]
  by_cases h1:s.dep<0
  ·exact stT (decT h1) (stC (Qif (by omega)) h)
  ·by_cases h2:s.dep≥s.arr
   ·exact stF (decF h1) (stT (decT (by omega)) (stC (Qif (by omega)) h))
   ·exact stF (decF h1) (stF (decF (by omega)) (stT (decT (by omega)) (stC (Qif (by omega)) h)))
theorem QxU (s:Sg) (hc:s.cls.length≤281474976710656) (h1:s.car.length≤281474976710656) (h2:s.fr.length≤281474976710656) (h3:s.to.length≤281474976710656):Ret lb Qbn [.agg (sgE s)] (errV (QbX s)):=by
 refine .top rfl (Evt.imp2 (Evt.imp2 (Qqv lb s.car h1) (Evt.imp2 (Qku lb s.fr h2) (Qku lb s.to h3) fun n a b=>(⟨a,b⟩:_∧_)) fun n a b=>(⟨a,b⟩:_∧_)) (Qzq lb s hc (Qbt (QcT s) 5) (by unfold Qbt;cases QcT s<;>simp)) fun n ⟨c1,c2,c3⟩ h=> ?_)
 rw [show top lb n Qbn [.agg (sgE s)]=_ from QrC lb n s.car s.num s.day s.fr s.to s.dep s.arr s.cls s.st s.mar]
 refine stO _ c1 (stO _ (QaP _) ?_)
 unfold QbX
 cases k1:Qgy s.car with
 |false=>
  have:QcT s=false:=by unfold QcT;rw [k1];rfl
  rw [this] at h⊢
  exact stT rfl h
 |true=>
  refine stF rfl (stO _ c2 (stO _ (QaP _) ?_))
  cases k2:Qdm s.fr with
  |false=>
   have:QcT s=false:=by unfold QcT;rw [k1,k2];rfl
   rw [this] at h⊢
   exact stT rfl h
  |true=>
   refine stF rfl (stO _ c3 (stO _ (QaP _) ?_))
   have:QcT s=Qdm s.to:=by unfold QcT;rw [k1,k2];rfl
   rw [this] at h⊢
   cases k3:Qdm s.to with
   |false=>rw [k3] at h;exact stT rfl h
   |true=>rw [k3] at h;exact stF rfl h
def PeSm (p:Pe):Prop:=p.la.length≤1000000000∧p.fi.length≤1000000000∧p.ty.length≤281474976710656
theorem Qsy (p:Pe) (h:PeSm p):Ret lb Qh8 [.agg (peE p)] (.bool (QeJ p)):=
 .top rfl (Evt.imp2 (QnD lb p.la h.1) (QnD lb p.fi h.2.1) fun n h1 h2=>by
  rw [show top lb n Qh8 [.agg (peE p)]=_ from QtP lb n p.la p.fi p.ty]
  refine stO _ h1 (stO _ (QaP _) ?_)
  unfold QeJ
  cases Qg2 p.la with
  |true=>exact stT rfl (stO _ h2 rfl)
  |false=>exact stF rfl rfl)
theorem QsO (p:Pe) (h:PeSm p):Ret lb Qh9 [.agg (peE p)] (.bool (Qf2 p)):=
 .top rfl ((Qg1 lb p.ty 3 3 h.2.2).mono fun n h1=>by
  rw [show top lb n Qh9 [.agg (peE p)]=_ from QtJ lb n p.la p.fi p.ty]
  exact stO _ h1 rfl)
theorem QnO (bn:Bool) (l:List Pe) (hl:l.length≤1000000):∀(t u:List Pe) (i a:Int),u++t=l→0≤i→i≤(u.length:Int)→0≤a→a≤(u.length:Int)→∀n k,t.length<k→Qe1 lb n k bn (l.map peE) i a (u.length:Int)=some (.bool (!decide (Qcr (i-a) t>0)))
 | [],u,i,a,h,_,_,_,_,n,k,hk=>by
  obtain ⟨k,rfl⟩:∃j,k=j+1:=⟨k-1,by simp at hk;omega⟩
  have hu:u=l:=by simpa using h
  rw [QjW,hu]
  refine stF (decF (by simp)) ?_
  rw [Qq5]
  have:decide (i≤a)= !decide (i-a>0):=by by_cases h:i≤a<;>simp [h]<;>omega
  rw [this];rfl
 |p::t,u,i,a,h,i0,i1,a0,a1,n,k,hk=>by
  obtain ⟨k,rfl⟩:∃j,k=j+1:=⟨k-1,by simp at hk;omega⟩
  have hul:u.length+(t.length+1)=l.length:=by rw [←h];simp
  have hw:IntKind.wrap .i64 ((u.length:Int)+1)=((u++ [p]).length:Int):=by rw [QaD (by omega) (by omega)];simp
  have hat:atL (l.map peE) (u.length:Int)=some (peE p):=Qa9 (by rw [List.getElem?_map,←h];simp)
  have wi:IntKind.wrap .i64 (i+1)=i+1:=QaD (by omega) (by omega)
  have wa:IntKind.wrap .i64 (a+1)=a+1:=QaD (by omega) (by omega)
  have hul2:((u++ [p]).length:Int)=(u.length:Int)+1:=by simp
  rw [QjW,hw,wi,wa]
  unfold Qcr
  refine stT (decT (by simp;omega)) (stO _ hat (stC rfl (stO _ rfl (stO _ rfl ?_))))
  cases hI:infB p with
  |true=>
   have hA:aduB p=false:=by unfold aduB;rw [hI];rfl
   have ih:=QnO bn l hl t (u++ [p]) (i+1) a (by rw [←h];simp) (by omega) (by omega) a0 (by omega) n k (by simp at hk;omega)
   refine stT hI (ih.trans ?_)
   rw [hA]
   simp only [cond_true,cond_false]
   rw [show i+1-a=i-a+1-0 by omega]
  |false=>
   refine stF hI (stO _ hat (stC rfl (stO _ rfl (stO _ rfl ?_))))
   cases hA:aduB p with
   |true=>
    have ih:=QnO bn l hl t (u++ [p]) i (a+1) (by rw [←h];simp) i0 (by omega) (by omega) (by omega) n k (by simp at hk;omega)
    have hc:(!(p.ty== [67,72,68]))=true:=by unfold aduB at hA;rw [hI] at hA;simpa using hA
    refine stT hc (ih.trans ?_)
    simp only [cond_true,cond_false]
    rw [show i-(a+1)=i-a+0-1 by omega]
   |false=>
    have ih:=QnO bn l hl t (u++ [p]) i a (by rw [←h];simp) i0 (by omega) a0 (by omega) n k (by simp at hk;omega)
    have hc:(!(p.ty== [67,72,68]))=false:=by unfold aduB at hA;rw [hI] at hA;simpa using hA
    exact stF hc (ih.trans (by simp))
theorem Qx2 (bn:Bool) (l:List Pe) (hl:l.length≤1000000):Ret lb Qce [.list bn (l.map peE)] (.bool (!decide (Qcr 0 l>0))):=
 .top rfl ((Evt.ge (l.length+1)).mono fun n hn=>by
  rw [Quo]
  exact QnO lb bn l hl l [] 0 0 rfl (by omega) (by omega) (by omega) (by omega) n n (by omega))
theorem Qno (bn:Bool) (ps:List Pe) (i:Int) (l:List Fau) (g:Int) (hps:ps.length≤1000000) (hl:l.length≤900000) (g0:0≤g) (g1:g≤99):
  Evt fun n=>QfD lb n bn (ps.map peE) i g l.isEmpty (l.map fauE)=some (QaV ((l++Qay (QaU ps.length g) 4 QaT)++Qay (decide (Qcr 0 ps>0)) 25 QaT)):=
 (Qx2 lb bn ps hps).mono fun n h=>by
  have hlen:(((ps.map peE).length:Nat):Int)=(ps.length:Int):=by simp
  have hw:IntKind.wrap .i64 ((ps.length:Int)+g)=(ps.length:Int)+g:=QaD (by omega) (by omega)
  have five:∀F:List Fau,F.length≤999999→Qcb lb n bn (ps.map peE) g i F.isEmpty (F.map fauE)=some (QaV (F++Qay (decide (Qcr 0 ps>0)) 25 QaT)):=fun F hF=>by
   rw [QpR]
   refine stO _ h (stO _ (QaP _) ?_)
   rw [Bool.not_not]
   exact acc (decide (Qcr 0 ps>0)) F 25 QaT hF (fun b l=>some (.list b l))
  have bad:=(accT l 4 QaT (by omega) (fun b m=>Qcb lb n bn (ps.map peE) g i b m)).trans (five (l++Qay true 4 QaT) (by have:=Qbh true 4 QaT;rw [List.length_append];omega))
  have good:=(accF l 4 QaT (fun b m=>Qcb lb n bn (ps.map peE) g i b m)).trans (five (l++Qay false 4 QaT) (by have:=Qbh false 4 QaT;rw [List.length_append];omega))
  rw [Qp5,hlen,hw]
  by_cases h0:(ps.length:Int)+g=0
  ·rw [show QaU ps.length g=true by simp [QaU,h0]]
   exact stT (beqT h0) bad
  refine stF (beqF h0) ?_
  by_cases hg:g=0
  ·refine stT (beqT hg) ?_
   by_cases h9:(ps.length:Int)>9
   ·rw [show QaU ps.length g=true by simp [QaU,hg];omega]
    exact stT (decT h9) bad
   refine stF (decF h9) ?_
   by_cases h99:(ps.length:Int)+g>99
   ·omega
   rw [show QaU ps.length g=false by simp [QaU];omega]
   exact stF (decF h99) good
  ·refine stF (beqF hg) ?_
   by_cases h99:(ps.length:Int)+g>99
   ·rw [show QaU ps.length g=true by simp [QaU];omega]
    exact stT (decT h99) bad
   rw [show QaU ps.length g=false by simp [QaU];omega]
   exact stF (decF h99) good
theorem Qw5 (bn:Bool) (ps:List Pe) (grp i:Int) (l:List Fau) (hps:ps.length≤1000000) (hl:l.length≤800000):
  Evt fun n=>QjS lb n bn (ps.map peE) grp l.isEmpty (l.map fauE) i=some (QaV (l++QhU ps grp)):=by
 unfold QhU
 by_cases h0:grp<0
 ·have hb:Qdp grp=true:=by simp [Qdp,h0]
  refine (Qno lb bn ps i (l++ [(2,QaT)]) 0 hps (by simp;omega) (by omega) (by omega)).mono fun n h=> ?_
  rw [QgU]
  refine stT (decT h0) (stC (Qgc (by omega)) ?_)
  rw [QeU,QeY l (2, [112,97,114,116,121]),hb]
  simpa [Qay,QaT] using h
 by_cases h1:grp>99
 ·have hb:Qdp grp=true:=by simp [Qdp,h1]
  refine (Qno lb bn ps i (l++ [(2,QaT)]) 0 hps (by simp;omega) (by omega) (by omega)).mono fun n h=> ?_
  rw [QgU]
  refine stF (decF h0) (stT (decT h1) (stC (Qgc (by omega)) ?_))
  rw [QeU,QeY l (2, [112,97,114,116,121]),hb]
  simpa [Qay,QaT] using h
 ·have hb:Qdp grp=false:=by simp [Qdp];omega
  refine (Qno lb bn ps i l grp hps (by omega) (by omega) (by omega)).mono fun n h=> ?_
  rw [QgU]
  refine stF (decF h0) (stF (decF h1) ?_)
  rw [hb]
  simpa [Qay] using h
theorem Qsk (bn:Bool) (ps:List Pe) (grp:Int) (hps:ps.length≤100000) (hok:∀p∈ps,PeSm p):Ret lb QaG [.list bn (ps.map peE), .int .i64 grp] (QaV (QaM ps grp)):=by
 have hlen:∀l:List Pe,(idxF perF 0 l).length≤2*l.length:=fun l=>QfA Qpx l 0
 refine .top rfl ((Evt.diag (Qd8 (enc:=peE) (l:=ps) (P:=fun p t n k=>Qem lb n k bn (ps.map peE) grp (idxF perF 0 p).isEmpty ((idxF perF 0 p).map fauE) (p.length:Int)=some (QaV (QaM ps grp))) (by omega)
  ((Qw5 lb bn ps grp (ps.length:Int) (idxF perF 0 ps) (by omega) (by have:=hlen ps;omega)).mono fun n h k=>by
    rw [Qi0]
    exact stF (decF (by simp)) h)
  (fun p x t h h1 h2 h3 ih=>by
   have hpl:p.length+(t.length+1)=ps.length:=by rw [←h];simp
   have hx:PeSm x:=hok x (by rw [←h];simp)
   have hil:=Qfv (z:=(p.length:Int)) (by omega) (by omega)
   have hF:=hlen p
   refine Evt.imp2 (Evt.imp2 (Qsy lb x hx) (Evt.imp2 (QsO lb x hx) (Qg5 lb (p.length:Int) (by omega) (by omega)) fun n a b=>And.intro a b) fun n a b=>And.intro a b) ih fun n ⟨c1,c2,c3⟩ hi k hk=> ?_
   have hi:=hi k hk
   rw [Qi0]
   refine stT (decT h1) (stO _ c3 (stO _ rfl (stC (decT (by simp;omega)) (stO _ h2 (stC rfl (stO _ rfl (stO _ rfl (stO _ rfl (stO _ c1 (stO _ (QaP _) ?_))))))))))
   rw [Qfu,Nat.zero_add] at hi
   rw [show perF p.length x=Qay (!QeJ x) 5 (Qca++Lib.itoa (p.length:Int))++Qay (!Qf2 x) 8 (Qca++Lib.itoa (p.length:Int)) from rfl] at hi
   rw [←List.append_assoc] at hi
   refine (acc (!QeJ x) (idxF perF 0 p) 5 (Qca++Lib.itoa (p.length:Int)) (by omega) (fun b l=>Qhi lb n k bn (ps.map peE) grp (p.length:Int) (Lib.itoa (p.length:Int)) (.str (Lib.itoa (p.length:Int))) b l)).trans ?_
   rw [Qqz,h3]
   refine stO _ h2 (stC rfl (stO _ rfl (stO _ rfl (stO _ rfl (stO _ c2 (stO _ (QaP _) ?_))))))
   exact (acc (!Qf2 x) (idxF perF 0 p++Qay (!QeJ x) 5 (Qca++Lib.itoa (p.length:Int))) 8 (Qca++Lib.itoa (p.length:Int)) (by have:=Qbh (!QeJ x) 5 (Qca++Lib.itoa (p.length:Int));rw [List.length_append];omega) (fun b l=>Qem lb n k bn (ps.map peE) grp b l ((p++ [x]).length:Int))).trans hi) ps [] rfl)).mono fun n h=>by rw [QtQ];exact h)
theorem Qxw (n yP:Nat) (jj:List UInt8) (jb:Bool) (jf:List (List CV)) (jg:Int) (je:Bool) (ja:List (List CV)) (jd:Bool) (jh:List (List CV)) (jc:Int) (js:CV) (wS j9:Int) (yR:List UInt8) (jr:Bool) (jq:List (List CV)) (jl:CV) (jp:Bool×List (List CV)) (ju:CV) (vF:List CV) (kl vJ yr kH:CV) (x:Sv) (h7:vJ= .int .i64 x.pe) (h8:yr= .int .i64 x.sg) (G:List Fau) (hG:G.length≤999999):
  QeQ lb n yP jj jb jf jg je ja jd jh jc js wS j9 yR jr jq jl jp ju vF kl vJ yr kH G.isEmpty (G.map fauE)=QbZ lb n yP jj jb jf jg je ja jd jh jc js wS jr jq jl jp ju (G++Qay (Qic jf.length ja.length x) 7 (QbC++yR)).isEmpty ((G++Qay (Qic jf.length ja.length x) 7 (QbC++yR)).map fauE) (IntKind.wrap .i64 (j9+1)):=by
 subst h7;subst h8
 have hT:=accT G 7 (QbC++yR) hG (fun b l=>QbZ lb n yP jj jb jf jg je ja jd jh jc js wS jr jq jl jp ju b l (IntKind.wrap .i64 (j9+1)))
 have hF:=accF G 7 (QbC++yR) (fun b l=>QbZ lb n yP jj jb jf jg je ja jd jh jc js wS jr jq jl jp ju b l (IntKind.wrap .i64 (j9+1)))
 rw [Qo8]
 unfold Qic
 refine stO _ (QaE ..) ?_
 cases decide (x.pe<0) with
 |true=>exact stT rfl hT
 |false=>
  refine stF rfl (stO _ (QaE ..) ?_)
  cases decide (x.pe≥(jf.length:Int)) with
  |true=>exact stT rfl hT
  |false=>
   refine stF rfl (stO _ (QaE ..) ?_)
   cases decide (x.sg<0) with
   |true=>exact stT rfl hT
   |false=>
    refine stF rfl (stO _ (QaE ..) ?_)
    cases decide (x.sg≥(ja.length:Int)) with
    |true=>exact stT rfl hT
    |false=>exact stF rfl hF
theorem QyP (n:Nat) (jj:List UInt8) (jb:Bool) (jf:List (List CV)) (jg:Int) (je:Bool) (ja:List (List CV)) (jd:Bool) (jh:List (List CV)) (jc:Int) (js:CV) (jr:Bool) (jq:List (List CV)) (jl:CV) (jp:Bool×List (List CV)) (ju:CV) (wS:Int) (svs:List Sv) (h9:jh=svs.map svE) (hl:svs.length≤100000) (hok:∀x∈svs,x.cd.length≤281474976710656) (F:List Fau) (hF:F.length≤500000):
  Evt fun n=>QjR lb n jj jb jf jg je ja jd jh jc js jr jq jl jp ju F.isEmpty (F.map fauE) wS=some (QaV (F++idxF (svF jf.length ja.length) 0 svs)):=by
 subst h9
 have hlen:∀l:List Sv,(idxF (svF jf.length ja.length) 0 l).length≤2*l.length:=fun l=>QfA (Qvo _ _) l 0
 refine (Evt.diag (Qd8 (enc:=svE) (l:=svs) (P:=fun p t n k=>QbZ lb n k jj jb jf jg je ja jd (svs.map svE) jc js wS jr jq jl jp ju (F++idxF (svF jf.length ja.length) 0 p).isEmpty ((F++idxF (svF jf.length ja.length) 0 p).map fauE) (p.length:Int)=some (QaV (F++idxF (svF jf.length ja.length) 0 svs))) (by omega)
  (.all fun n k=>by
   rw [QiQ]
   refine stF (decF (by simp)) ?_
   rw [Qpu]
   rfl)
  (fun p x t h h1 h2 h3 ih=>by
   have hpl:p.length+(t.length+1)=svs.length:=by rw [←h];simp
   have hx:=hok x (by rw [←h];simp)
   have hil:=Qfv (z:=(p.length:Int)) (by omega) (by omega)
   have hP:=hlen p
   refine Evt.imp2 (Evt.imp2 (Qg1 lb x.cd 4 4 hx) (Qg5 lb (p.length:Int) (by omega) (by omega)) fun n a b=>And.intro a b) ih fun n ⟨c1,c2⟩ hi k hk=> ?_
   have hi:=hi k hk
   rw [QiQ]
   refine stT (decT h1) (stO _ h2 (stC rfl (stO _ rfl (stO _ rfl (stO _ rfl (stO _ c2 (stO _ rfl (stC (decT (by simp;omega)) (stO _ c1 (stO _ (QaP _) ?_))))))))))
   refine (acc (!Qb9 x.cd 4 4) (F++idxF (svF jf.length ja.length) 0 p) 5 (QbC++Lib.itoa (p.length:Int)) (by simp;omega) (fun b l=>QeQ lb n k jj jb jf jg je ja jd (svs.map svE) jc js wS (p.length:Int) (Lib.itoa (p.length:Int)) jr jq jl jp ju (svE x) (.str x.cd) (.int .i64 x.pe) (.int .i64 x.sg) (.str (Lib.itoa (p.length:Int))) b l)).trans ?_
   refine (Qxw (x:=x) (h7:=rfl) (h8:=rfl) (hG:=by
    have:=Qbh (!Qb9 x.cd 4 4) 5 (QbC++Lib.itoa (p.length:Int))
    rw [List.length_append,List.length_append];omega) ..).trans ?_
   rw [h3]
   rw [Qfu,Nat.zero_add] at hi
   rw [show svF jf.length ja.length p.length x=Qay (!Qb9 x.cd 4 4) 5 (QbC++Lib.itoa (p.length:Int))++Qay (Qic jf.length ja.length x) 7 (QbC++Lib.itoa (p.length:Int)) from rfl] at hi
   simp only [List.append_assoc] at hi⊢
   exact hi) svs [] rfl)).mono fun n h=>by
   rw [Qqc]
   have e:F++idxF (svF jf.length ja.length) 0 ([]:List Sv)=F:=List.append_nil F
   rw [e] at h
   exact h
theorem Qvl (n yX:Nat) (jj:List UInt8) (jb:Bool) (jf:List (List CV)) (jg:Int) (je:Bool) (ja:List (List CV)) (jd:Bool) (jh:List (List CV)) (jc:Int) (js:CV) (yG:Int) (yL:CV) (jr:Bool) (jq:List (List CV)) (jl:CV) (jp:Bool×List (List CV)) (ju:CV) (y0:List CV) (jy jz yf jC jA jB jS jR jE vt:CV) (m:Nat) (h63:yG=(m:Int)) (hm:m≤1000000) (er:List Int) (hr:yL=errV er) (her:er.length≤10) (F:List Fau) (hF:F.length≤900000) (hdec:C lb n QdZ [.int .i64 yG]=some (.str (Lib.itoa (m:Int)))):∀(t p:List Int),p++t=er→∀k,t.length<k→
  Qfy lb n k yX jj jb jf jg je ja jd jh jc js yG yL jr jq jl jp ju y0 jy jz yf jC jA jB jS jR jE vt (F++p.map fun e=>(e,segS++Lib.itoa (m:Int))).isEmpty ((F++p.map fun e=>(e,segS++Lib.itoa (m:Int))).map fauE) (p.length:Int)=Qft lb n yX jj jb jf jg je ja jd jh jc js jr jq jl jp ju (F++er.map fun e=>(e,segS++Lib.itoa (m:Int))).isEmpty ((F++er.map fun e=>(e,segS++Lib.itoa (m:Int))).map fauE) (IntKind.wrap .i64 (yG+1))
 | [],p,h,k,hk=>by
  obtain ⟨k,rfl⟩:∃j,k=j+1:=⟨k-1,by simp at hk;omega⟩
  have hpe:p=er:=by simpa using h
  subst hpe;subst hr
  rw [QiY]
  refine stO _ rfl (stF (decF (by simp)) ?_)
  rw [QqE]
 |e::t,p,h,k,hk=>by
  obtain ⟨k,rfl⟩:∃j,k=j+1:=⟨k-1,by simp at hk;omega⟩
  have hpl:p.length+(t.length+1)=er.length:=by rw [←h];simp
  have hil:=Qfv (z:=(m:Int)) (by omega) (by omega)
  have hw:IntKind.wrap .i64 ((p.length:Int)+1)=((p++ [e]).length:Int):=by rw [QaD (by omega) (by omega)];simp
  have hat:atL (er.map icv) (p.length:Int)=some (icv e):=Qa9 (by rw [List.getElem?_map,←h];simp)
  have ih:=Qvl n yX jj jb jf jg je ja jd jh jc js yG yL jr jq jl jp ju y0 jy jz yf jC jA jB jS jR jE vt m h63 hm er hr her F hF hdec t (p++ [e]) (by rw [←h];simp) k (by simp at hk;omega)
  have hFl:(F++p.map fun e=>(e,segS++Lib.itoa (m:Int))).length≤999999:=by rw [List.length_append,List.length_map];omega
  subst hr
  rw [QiY]
  refine stO _ rfl (stT (decT (by simp;omega)) (stO _ rfl (stO _ hat (stC rfl (stO _ rfl (stO _ hdec (stO _ rfl (stC (decT (by simp;omega)) (stC rfl ?_)))))))))
  refine (accT (F++p.map fun e=>(e,segS++Lib.itoa (m:Int))) e (segS++Lib.itoa (m:Int)) hFl (fun b l=>Qfy lb n k yX jj jb jf jg je ja jd jh jc js yG (errV er) jr jq jl jp ju y0 jy jz yf jC jA jB jS jR jE vt b l (IntKind.wrap .i64 ((p.length:Int)+1)))).trans ?_
  rw [hw]
  rw [List.map_append,←List.append_assoc] at ih
  exact ih
theorem QyT (n:Nat) (jj:List UInt8) (jb:Bool) (jf:List (List CV)) (jg:Int) (je:Bool) (ja:List (List CV)) (jd:Bool) (jh:List (List CV)) (jc:Int) (js:CV) (jr:Bool) (jq:List (List CV)) (jl:CV) (jp:Bool×List (List CV)) (ju:CV) (segs:List Sg) (h6:ja=segs.map sgE) (hs:segs.length≤1000) (hsok:∀s∈segs,(s.car.length≤281474976710656∧s.fr.length≤281474976710656∧s.to.length≤281474976710656)∧s.cls.length≤281474976710656) (svs:List Sv) (h9:jh=svs.map svE) (hl:svs.length≤100000) (hok:∀x∈svs,x.cd.length≤281474976710656) (F:List Fau) (hF:F.length≤400000):
  Evt fun n=>Qfj lb n jj jb jf jg je ja jd jh jc js jr jq jl jp ju F.isEmpty (F.map fauE)=some (QaV ((F++idxF segF 0 segs)++idxF (svF jf.length ja.length) 0 svs)):=by
 have hlen:∀l:List Sg,(idxF segF 0 l).length≤4*l.length:=fun l=>QfA Qtt l 0
 have h8:=QyP lb 0 jj jb jf jg je ja jd jh jc js jr jq jl jp ju (segs.length:Int) svs h9 hl hok (F++idxF segF 0 segs) (by have:=hlen segs;rw [List.length_append];omega)
 subst h6
 refine (Evt.diag (Qd8 (enc:=sgE) (l:=segs) (P:=fun p t n k=>Qft lb n k jj jb jf jg je (segs.map sgE) jd jh jc js jr jq jl jp ju (F++idxF segF 0 p).isEmpty ((F++idxF segF 0 p).map fauE) (p.length:Int)=some (QaV ((F++idxF segF 0 segs)++idxF (svF jf.length (segs.map sgE).length) 0 svs))) (by omega)
  (h8.mono fun n h k=>by
   rw [QiX]
   exact stF (decF (by simp)) h)
  (fun p x t h h1 h2 h3 ih=>by
   have hpl:p.length+(t.length+1)=segs.length:=by rw [←h];simp
   have hx:=hsok x (by rw [←h];simp)
   have hP:=hlen p
   refine Evt.imp2 (Evt.imp2 (QxU lb x hx.2 hx.1.1 hx.1.2.1 hx.1.2.2) (Evt.imp2 (Qg5 lb (p.length:Int) (by omega) (by omega)) (Evt.ge 6) fun n a b=>And.intro a b) fun n a b=>And.intro a b) ih fun n ⟨c1,c2,c3⟩ hi k hk=> ?_
   have hi:=hi k hk
   rw [QiX]
   refine stT (decT h1) (stO _ h2 (stC rfl (stO _ rfl (stO _ rfl (stO _ rfl (stO _ rfl (stO _ rfl (stO _ rfl (stO _ rfl (stO _ rfl (stO _ rfl (stO _ rfl (stO _ c1 ?_)))))))))))))
   have hL:=Qvl (lb:=lb) (n:=n) (yX:=k) (m:=p.length) (yG:=(p.length:Int)) (h63:=rfl) (hm:=by omega) (er:=QbX x) (yL:=errV (QbX x)) (hr:=rfl) (her:=by have:=Qg8 x;omega) (F:=F++idxF segF 0 p) (hF:=by rw [List.length_append];omega) (hdec:=c2) (jj:=jj) (jb:=jb) (jf:=jf) (jg:=jg) (je:=je) (ja:=segs.map sgE) (jd:=jd) (jh:=jh) (jc:=jc) (js:=js) (jr:=jr) (jq:=jq) (jl:=jl) (jp:=jp) (ju:=ju) (y0:=sgE x) (jy:= .str x.car) (jz:= .int .i64 x.num) (yf:= .int .i64 x.day) (jC:= .str x.fr) (jA:= .str x.to) (jB:= .int .i64 x.dep) (jS:= .int .i64 x.arr) (jR:= .str x.cls) (jE:= .int .i64 x.st) (vt:= .int .i64 x.mar) (QbX x) [] rfl n (by have:=Qg8 x;omega)
   rw [List.map_nil,List.append_nil,h3] at hL
   refine Eq.trans hL ?_
   rw [Qfu,Nat.zero_add] at hi
   rw [show segF p.length x=(QbX x).map (fun e=>(e,segS++Lib.itoa (p.length:Int))) from rfl] at hi
   rw [List.append_assoc]
   exact hi) segs [] rfl)).mono fun n h=>by
   rw [QqN]
   have e:F++idxF segF 0 ([]:List Sg)=F:=List.append_nil F
   rw [e] at h
   exact h
theorem QuC (s:Bs) (hs:s.length≤281474976710656):Ret lb QiM [.str s] (.bool (Qb9 s 6 6)):=
 .top rfl ((Qg1 lb s 6 6 hs).mono fun n h=>by
  rw [QrG]
  exact stO _ h rfl)
def Qho (b:Bk):List Fau:=QkG b.loc b.ps b.grp b.segs b.svs b.lim
theorem QsM (b:Bk) (hloc:b.loc.length≤281474976710656) (hps:b.ps.length≤1000) (hpok:∀p∈b.ps,PeSm p) (hs:b.segs.length≤1000) (hsok:∀s∈b.segs,(s.car.length≤281474976710656∧s.fr.length≤281474976710656∧s.to.length≤281474976710656)∧s.cls.length≤281474976710656) (hl:b.svs.length≤100000) (hok:∀x∈b.svs,x.cd.length≤281474976710656):
  Ret lb Qai [.agg (bkE b)] (QaV (Qho b)):=by
 have hmm:(mars b.segs).length≤1000:=by simpa [mars] using hs
 have hpl:=Qu0 b.ps b.grp
 have h3:∀F:List Fau,F.length≤300000→∀jr jq jl jp,Evt fun n=>QdJ lb n b.loc b.pn (b.ps.map peE) b.grp b.bn (b.segs.map sgE) b.rn (b.svs.map svE) b.lim jr jq jl jp F.isEmpty (F.map fauE)=some (QaV (((F++Qay (marE (mars b.segs) !=0) (marE (mars b.segs)) Qb8)++idxF segF 0 b.segs)++idxF (svF b.ps.length b.segs.length) 0 b.svs)):=fun F hF jr jq jl jp=>by
  have h4:=QyT lb 0 b.loc b.pn (b.ps.map peE) b.grp b.bn (b.segs.map sgE) b.rn (b.svs.map svE) b.lim (.int .i64 (marE (mars b.segs))) jr jq jl jp (.list b.segs.isEmpty ((mars b.segs).map icv)) b.segs rfl hs hsok b.svs rfl hl hok (F++Qay (marE (mars b.segs) !=0) (marE (mars b.segs)) Qb8) (by
   have:=Qbh (marE (mars b.segs) !=0) (marE (mars b.segs)) Qb8
   rw [List.length_append];omega)
  rw [List.length_map,List.length_map] at h4
  refine Evt.imp2 (Evt.imp2 (Qkb lb b (by omega)) (QmE lb b.segs.isEmpty (mars b.segs) (by omega)) fun n x y=>And.intro x y) h4 fun n ⟨c1,c2⟩ h=> ?_
  rw [Qqu]
  refine stO _ c1 (stO _ c2 (stO _ (QaE ..) ?_))
  exact (acc (marE (mars b.segs) !=0) F (marE (mars b.segs)) Qb8 (by omega) (fun q l=>Qfj lb n b.loc b.pn (b.ps.map peE) b.grp b.bn (b.segs.map sgE) b.rn (b.svs.map svE) b.lim (.int .i64 (marE (mars b.segs))) jr jq jl jp (.list b.segs.isEmpty ((mars b.segs).map icv)) q l)).trans h
 have h2:∀F:List Fau,F.length≤10→Evt fun n=>QdQ lb n b.loc b.pn (b.ps.map peE) b.grp b.bn (b.segs.map sgE) b.rn (b.svs.map svE) b.lim F.isEmpty (F.map fauE)=some (QaV (((((F++QaM b.ps b.grp)++Qay (decide ((b.segs.length:Int)>24)) 4 Qb8)++Qay (marE (mars b.segs) !=0) (marE (mars b.segs)) Qb8)++idxF segF 0 b.segs)++idxF (svF b.ps.length b.segs.length) 0 b.svs)):=fun F hF=>by
  have h4:=h3 ((F++QaM b.ps b.grp)++Qay (decide ((b.segs.length:Int)>24)) 4 Qb8) (by
   have:=Qbh (decide ((b.segs.length:Int)>24)) 4 Qb8
   simp only [List.length_append];omega) F.isEmpty (F.map fauE) (QaV (QaM b.ps b.grp)) ((QaM b.ps b.grp).isEmpty,(QaM b.ps b.grp).map fauE)
  refine Evt.imp2 (Qsk lb b.pn b.ps b.grp (by omega) hpok) h4 fun n c1 h=> ?_
  rw [QpW]
  refine stO _ c1 (stO _ rfl (stC (by simp [fauE]) (stC (Qdj (by simp;omega)) ?_)))
  have e0:∀a b:List Fau,(a.isEmpty&&(b.map fauE).isEmpty)=(a++b).isEmpty:=fun a b=>by cases a<;>cases b<;>rfl
  have e1:=e0 F (QaM b.ps b.grp)
  have e2:F.map fauE++(QaM b.ps b.grp).map fauE=(F++QaM b.ps b.grp).map fauE:=by simp
  show (bif decide ((((b.segs.map sgE).length:Nat):Int)>24) then chkO (room ((F.map fauE++(QaM b.ps b.grp).map fauE).length+1) 24) (QdJ lb n b.loc b.pn (b.ps.map peE) b.grp b.bn (b.segs.map sgE) b.rn (b.svs.map svE) b.lim F.isEmpty (F.map fauE) (QaV (QaM b.ps b.grp)) ((QaM b.ps b.grp).isEmpty,(QaM b.ps b.grp).map fauE) ((F.isEmpty&&((QaM b.ps b.grp).map fauE).isEmpty)&&false) ((F.map fauE++(QaM b.ps b.grp).map fauE)++ [[CV.int .i64 4,CV.str Qb8]])) else QdJ lb n b.loc b.pn (b.ps.map peE) b.grp b.bn (b.segs.map sgE) b.rn (b.svs.map svE) b.lim F.isEmpty (F.map fauE) (QaV (QaM b.ps b.grp)) ((QaM b.ps b.grp).isEmpty,(QaM b.ps b.grp).map fauE) (F.isEmpty&&((QaM b.ps b.grp).map fauE).isEmpty) (F.map fauE++(QaM b.ps b.grp).map fauE))=_
  rw [e1,e2,List.length_map]
  exact (acc (decide ((b.segs.length:Int)>24)) (F++QaM b.ps b.grp) 4 Qb8 (by rw [List.length_append];omega) (fun q l=>QdJ lb n b.loc b.pn (b.ps.map peE) b.grp b.bn (b.segs.map sgE) b.rn (b.svs.map svE) b.lim F.isEmpty (F.map fauE) (QaV (QaM b.ps b.grp)) ((QaM b.ps b.grp).isEmpty,(QaM b.ps b.grp).map fauE) q l)).trans h
 have h1:∀F:List Fau,F.length≤9→Evt fun n=>r35_Check_J1 lb n b.loc b.pn (b.ps.map peE) b.grp b.bn (b.segs.map sgE) b.rn (b.svs.map svE) b.lim F.isEmpty (F.map fauE)=some (QaV ((((((F++Qay (Qhq b.lim) 13 Qfk)++QaM b.ps b.grp)++Qay (decide ((b.segs.length:Int)>24)) 4 Qb8)++Qay (marE (mars b.segs) !=0) (marE (mars b.segs)) Qb8)++idxF segF 0 b.segs)++idxF (svF b.ps.length b.segs.length) 0 b.svs)):=fun F hF=>by
  refine (h2 (F++Qay (Qhq b.lim) 13 Qfk) (by
   have:=Qbh (Qhq b.lim) 13 Qfk
   rw [List.length_append];omega)).mono fun n h=> ?_
  have hT:=accT F 13 Qfk (by omega) (fun q m=>QdQ lb n b.loc b.pn (b.ps.map peE) b.grp b.bn (b.segs.map sgE) b.rn (b.svs.map svE) b.lim q m)
  have hN:=accF F 13 Qfk (fun q m=>QdQ lb n b.loc b.pn (b.ps.map peE) b.grp b.bn (b.segs.map sgE) b.rn (b.svs.map svE) b.lim q m)
  rw [Qp1]
  unfold Qhq at h⊢
  cases h0:decide (b.lim<0) with
  |true=>rw [h0] at h;exact stT rfl (hT.trans h)
  |false=>
   rw [h0] at h
   refine stF rfl ?_
   cases h9:decide (b.lim≥52596000) with
   |true=>rw [h9] at h;exact stT rfl (hT.trans h)
   |false=>rw [h9] at h;exact stF rfl (hN.trans h)
 refine .top rfl (Evt.imp2 (QuC lb b.loc hloc) (h1 (Qay (!Qb9 b.loc 6 6) 5 Qj4) (by have:=Qbh (!Qb9 b.loc 6 6) 5 Qj4;omega)) fun n c h=> ?_)
 rw [show top lb n Qai [.agg (bkE b)]=_ from QtN lb n b.loc b.pn (b.ps.map peE) b.grp b.bn (b.segs.map sgE) b.rn (b.svs.map svE) b.lim]
 refine stO _ c (stO _ (QaP _) ?_)
 unfold Qho QkG
 cases hc:Qb9 b.loc 6 6 with
 |true=>rw [hc] at h;exact stF rfl h
 |false=>rw [hc] at h;exact stT rfl h
end Go.Proofs
