/- Chapter 35: bookings on plain data: segments, their marriages. Conditions: as each says. -/
import Derived.Test.YtigmcfhmpcajlaaGreatDoorBA
import Derived.Test.YtigmcfhmpcajlaaGreatDoorRA
import Derived.Test.YtigmcfhmpcajlaaGreatDoorGE
set_option linter.unusedSimpArgs false
set_option linter.unusedVariables false
namespace Go.Proofs
open Go.Am
variable (lb:Nat)
structure Sg where
 car:Bs
 num:Int
 day:Int
 fr:Bs
 to:Bs
 dep:Int
 arr:Int
 cls:Bs
 st:Int
 mar:Int
def sgE (s:Sg):List CV:= [.str s.car, .int .i64 s.num, .int .i64 s.day, .str s.fr, .str s.to, .int .i64 s.dep, .int .i64 s.arr, .str s.cls, .int .i64 s.st, .int .i64 s.mar]
def mars (l:List Sg):List Int:=l.map Sg.mar
theorem Qml (bn:Bool) (l:List Sg) (hl:l.length≤1000000):Ret lb QaS [.list bn (l.map sgE)] (.list false ((mars l).map icv)):=
 .top rfl ((Evt.diag (Qd8 (enc:=sgE) (l:=l) (P:=fun p t n k=>Qdu lb n k bn (l.map sgE) ((mars p).map icv) (p.length:Int)=some (.list false ((mars l).map icv))) (by omega)
  (.all fun n k=>by
   rw [Qe8]
   refine stF (decF (by simp)) ?_
   rw [Qj9])
  (fun p x t h h1 h2 h3 ih=>ih.mono fun n hi k hk=>by
   have hpl:p.length+(t.length+1)=l.length:=by rw [←h];simp
   rw [Qe8]
   refine stT (decT h1) (stO _ h2 (stC rfl (stO _ rfl (stO _ rfl (stO _ rfl (stO _ rfl (stO _ rfl (stO _ rfl (stO _ rfl (stO _ rfl (stO _ rfl (stO _ rfl (stC rfl (stC ?_ ?_))))))))))))))
   ·simp [room,mars];omega
   ·rw [h3]
    have:=hi k hk
    simpa [mars,icv] using this) l [] rfl)).mono fun n h=>by
   rw [Qmb]
   refine stC ?_ h
   simp;omega)
end Go.Proofs
set_option linter.unusedSimpArgs false
set_option linter.unusedVariables false
namespace Go.Proofs
open Go.Am
variable (lb:Nat)
def stOk (x:Int):Bool:=decide (1≤x∧x≤7)
def stWords:Bs:= [72,75,72,76,75,76,84,75,85,78,85,67,88,88]
def Qy4 (x:Int):Bs:=(stWords.take (2*x).toNat).drop (2*x-2).toNat
def Qji (x:Int):CV:=bif stOk x then .tup [.str (Qy4 x), .int .i64 0] else .tup [.str [], .int .i64 8]
theorem QqU (x:Int):Ret lb QiO [.int .i64 x] (Qji x):=
 .top rfl (.all fun n=>by
  rw [Qq6]
  unfold Qji
  by_cases h1:x<1
  ·have:stOk x=false:=by simp [stOk];omega
   rw [this]
   exact stT (decT h1) rfl
  ·by_cases h2:x>7
   ·have:stOk x=false:=by simp [stOk];omega
    rw [this]
    exact stF (decF h1) (stT (decT h2) rfl)
   ·have:stOk x=true:=by simp [stOk];omega
    have hw:IntKind.wrap .i64 (2*x)=2*x:=QaD (by omega) (by omega)
    have hw2:IntKind.wrap .i64 (2*x-2)=2*x-2:=QaD (by omega) (by omega)
    rw [this,hw,hw2]
    exact stF (decF h1) (stF (decF h2) (stC (decT (by omega)) (stC (decT (by omega)) rfl))))
def QcT (s:Sg):Bool:=Qgy s.car&&(Qdm s.fr&&Qdm s.to)
def Qd2 (s:Sg):Bool:=decide (0≤s.dep∧s.dep<s.arr∧s.arr<52596000)
def Qbt (b:Bool) (e:Int):List Int:=bif b then [] else [e]
def QbX (s:Sg):List Int:=((Qbt (QcT s) 5++Qbt (Qd2 s) 13)++Qbt (Qdn s.cls) 16)++Qbt (stOk s.st) 10
def errV (l:List Int):CV:= .list l.isEmpty (l.map icv)
theorem Qif {l:List Int} (h:l.length≤8):room ((l.map icv).length+1) 8=true:=Qdj (by simp;omega)
theorem Qjm (l:List Int) (e:Int):l.map icv++ [[CV.int .i64 e]]=(l++ [e]).map icv:=by simp [icv]
theorem Qjo (l:List Int) (e:Int):(l.isEmpty&&false)=(l++ [e]).isEmpty:=by simp
theorem QzW (s:Sg) (l:List Int) (hl:l.length≤3):Evt fun n=>QfO lb n s.car s.num s.day s.fr s.to s.dep s.arr s.cls s.st s.mar l.isEmpty (l.map icv)=some (errV (l++Qbt (stOk s.st) 10)):=
 (QqU lb s.st).mono fun n h=>by
  rw [Qod]
  refine stO _ h ?_
  unfold Qji
  cases stOk s.st with
  |true=>
   refine stO _ rfl (stO _ rfl (stO _ rfl (stO _ rfl (stO _ rfl (stF rfl ?_)))))
   show _=some (errV (l++ []))
   rw [List.append_nil];rfl
  |false=>
   refine stO _ rfl (stO _ rfl (stO _ rfl (stO _ rfl (stO _ rfl (stT rfl (stC (Qif (by omega)) ?_))))))
   rw [Qjm,Qjo l 10];rfl
theorem QzD (s:Sg) (l:List Int) (hl:l.length≤2):Evt fun n=>QdH lb n s.car s.num s.day s.fr s.to s.dep s.arr s.cls s.st s.mar l.isEmpty (l.map icv)=some (errV ((l++Qbt (Qdn s.cls) 16)++Qbt (stOk s.st) 10)):=by
 refine Evt.imp2 (Qrj lb s.cls) (QzW lb s (l++Qbt (Qdn s.cls) 16) (by unfold Qbt;cases Qdn s.cls<;>simp<;>omega)) fun n h h3=> ?_
 rw [Qom]
 refine stO _ h (stO _ (QaP _) ?_)
 cases hc:Qdn s.cls with
 |true=>
  rw [hc] at h3
  refine stF rfl ?_
  have e:l++Qbt true 16=l:=List.append_nil l
  rw [e] at h3⊢
  exact h3
 |false=>
  rw [hc] at h3
  refine stT rfl (stC (Qif (by omega)) ?_)
  rw [Qjm,Qjo l 16]
  exact h3
theorem Qz1 (s:Sg) (l:List Int) (hl:l.length≤1):Evt fun n=>QdC lb n s.car s.num s.day s.fr s.to s.dep s.arr s.cls s.st s.mar l.isEmpty (l.map icv)=some (errV (((l++Qbt (Qd2 s) 13)++Qbt (Qdn s.cls) 16)++Qbt (stOk s.st) 10)):=by
 refine (QzD lb s (l++Qbt (Qd2 s) 13) (by unfold Qbt;cases Qd2 s<;>simp<;>omega)).mono fun n h=> ?_
 rw [Qn9]
 cases ht:Qd2 s with
 |true=>
  rw [ht] at h
  have e:l++Qbt true 13=l:=List.append_nil l
  rw [e] at h⊢
  simp only [Qd2,decide_eq_true_eq] at ht
  exact stF (decF (by omega)) (stF (decF (by omega)) (stF (decF (by omega)) h))
 |false=>
  rw [ht] at h
  simp only [Qd2,decide_eq_false_iff_not] at ht
  rw [Qjm,Qjo l 13]
  by_cases h1:s.dep<0
  ·exact stT (decT h1) (stC (Qif (by omega)) h)
  ·by_cases h2:s.dep≥s.arr
   ·exact stF (decF h1) (stT (decT h2) (stC (Qif (by omega)) h))
   ·exact stF (decF h1) (stF (decF h2) (stT (decT (by omega)) (stC (Qif (by omega)) h)))
theorem QyW (s:Sg) (h1:s.car.length≤281474976710656) (h2:s.fr.length≤281474976710656) (h3:s.to.length≤281474976710656):Ret lb Qbo [.agg (sgE s)] (errV (QbX s)):=by
 refine .top rfl (Evt.imp2 (Evt.imp2 (Qpw lb s.car h1) (Evt.imp2 (Qjy lb s.fr h2) (Qjy lb s.to h3) fun n a b=>(⟨a,b⟩:_∧_)) fun n a b=>(⟨a,b⟩:_∧_)) (Qz1 lb s (Qbt (QcT s) 5) (by unfold Qbt;cases QcT s<;>simp)) fun n ⟨c1,c2,c3⟩ h=> ?_)
 rw [show top lb n Qbo [.agg (sgE s)]=_ from Qrc lb n s.car s.num s.day s.fr s.to s.dep s.arr s.cls s.st s.mar]
 refine stO _ c1 (stO _ (QaP _) ?_)
 unfold QbX
 cases k1:Qgy s.car with
 |false=>
  have:QcT s=false:=by unfold QcT;rw [k1];rfl
  rw [this] at h⊢
  exact stT rfl h
 |true=>
  refine stF rfl (stO _ c2 (stO _ (QaP _) ?_))
  cases k2:Qdm s.fr with
  |false=>
   have:QcT s=false:=by unfold QcT;rw [k1,k2];rfl
   rw [this] at h⊢
   exact stT rfl h
  |true=>
   refine stF rfl (stO _ c3 (stO _ (QaP _) ?_))
   have:QcT s=Qdm s.to:=by unfold QcT;rw [k1,k2];rfl
   rw [this] at h⊢
   cases k3:Qdm s.to with
   |false=>rw [k3] at h;exact stT rfl h
   |true=>rw [k3] at h;exact stF rfl h
end Go.Proofs
set_option linter.unusedSimpArgs false
set_option linter.unusedVariables false
namespace Go.Proofs
open Go.Am
variable (lb:Nat)
structure Pe where
 la:Bs
 fi:Bs
 ty:Bs
def peE (p:Pe):List CV:= [.str p.la, .str p.fi, .str p.ty]
def PeOk (p:Pe):Prop:=p.la.length≤281474976710656∧p.fi.length≤281474976710656∧p.ty.length≤281474976710656
def infB (p:Pe):Bool:=p.ty== [73,78,70]
def aduB (p:Pe):Bool:= !infB p&& !(p.ty== [67,72,68])
def QeJ (p:Pe):Bool:=Qg2 p.la&&Qg2 p.fi
def Qf2 (p:Pe):Bool:=Qb9 p.ty 3 3
def Qcr:Int→List Pe→Int
 |n, []=>n
 |n,p::t=>Qcr ((n+(bif infB p then 1 else 0))-(bif aduB p then 1 else 0)) t
theorem Qmy (s:Bs):Ret lb QbG [.str s] (.bool (Qg2 s)):=by
 by_cases h:s.length≤30
 ·exact Qsz lb s (by omega)
 ·refine .top rfl (.all fun n=> ?_)
  rw [Qnv]
  have:Qg2 s=false:=by unfold Qg2;simp [h]
  rw [this]
  exact stT (decT (by omega)) rfl
theorem Qww (p:Pe) (h:PeOk p):Ret lb Qgg [.agg (peE p)] (.bool (QeJ p)):=
 .top rfl (Evt.imp2 (Qmy lb p.la) (Qmy lb p.fi) fun n h1 h2=>by
  rw [show top lb n Qgg [.agg (peE p)]=_ from QrI lb n p.la p.fi p.ty]
  refine stO _ h1 (stO _ (QaP _) ?_)
  unfold QeJ
  cases Qg2 p.la with
  |true=>exact stT rfl (stO _ h2 rfl)
  |false=>exact stF rfl rfl)
theorem QwT (p:Pe) (h:PeOk p):Ret lb QdX [.agg (peE p)] (.bool (Qf2 p)):=
 .top rfl ((Qgd lb p.ty 3 3 (by have:=h.2.2;omega)).mono fun n h1=>by
  rw [show top lb n QdX [.agg (peE p)]=_ from Qrh lb n p.la p.fi p.ty]
  exact stO _ h1 rfl)
theorem QqB (p:Pe):Ret lb Qej [.agg (peE p)] (.bool (infB p)):=
 .top rfl (.all fun n=>by
  rw [show top lb n Qej [.agg (peE p)]=_ from Qp6 lb n p.la p.fi p.ty]
  rfl)
theorem Qwq (p:Pe):Ret lb QeM [.agg (peE p)] (.bool (aduB p)):=
 .top rfl ((QqB lb p).mono fun n h=>by
  rw [show top lb n QeM [.agg (peE p)]=_ from Qq0 lb n p.la p.fi p.ty]
  refine stO _ h (stO _ (QaP _) ?_)
  unfold aduB
  cases infB p with
  |true=>exact stF rfl rfl
  |false=>exact stT rfl rfl)
theorem Qs2 (bn:Bool) (l:List Pe) (hl:l.length≤1000000):∀(t u:List Pe) (m:Int),u++t=l→-(u.length:Int)≤m→m≤(u.length:Int)→Evt fun n=>∀k,t.length<k→QcW lb n k bn (l.map peE) m (u.length:Int)=some (.bool (decide (Qcr m t>0)))
 | [],u,m,h,_,_=> .all fun n k hk=>by
  obtain ⟨k,rfl⟩:∃j,k=j+1:=⟨k-1,by simp at hk;omega⟩
  have hu:u=l:=by simpa using h
  rw [Qhy,hu]
  refine stF (decF (by simp)) ?_
  rw [Qn7];rfl
 |p::t,u,m,h,m0,m1=>by
  have hul:u.length+(t.length+1)=l.length:=by rw [←h];simp
  have hw:IntKind.wrap .i64 ((u.length:Int)+1)=((u++ [p]).length:Int):=by rw [QaD (by omega) (by omega)];simp
  have hat:atL (l.map peE) (u.length:Int)=some (peE p):=Qa9 (by rw [List.getElem?_map,←h];simp)
  have w1:IntKind.wrap .i64 (m+1)=m+1:=QaD (by omega) (by omega)
  have w2:IntKind.wrap .i64 (m-1)=m-1:=QaD (by omega) (by omega)
  have w3:IntKind.wrap .i64 (m+1-1)=m:=by rw [QaD (by omega) (by omega)];omega
  have hex:infB p=true→aduB p=false:=fun hi=>by unfold aduB;rw [hi];rfl
  refine Evt.imp2 (Evt.imp2 (QqB lb p) (Qwq lb p) fun n a b=>(⟨a,b⟩:_∧_)) (Qs2 bn l hl t (u++ [p]) ((m+(bif infB p then 1 else 0))-(bif aduB p then 1 else 0)) (by rw [←h];simp)
   (by simp;cases infB p<;>cases aduB p<;>simp<;>omega) (by simp;cases infB p<;>cases aduB p<;>simp<;>omega)) fun n ⟨h1,h2⟩ hi k hk=> ?_
  obtain ⟨k,rfl⟩:∃j,k=j+1:=⟨k-1,by simp at hk;omega⟩
  have hi:=hi k (by simp at hk;omega)
  rw [Qhy]
  unfold Qcr
  refine stT (decT (by simp;omega)) (stO _ hat (stC rfl (stO _ rfl (stO _ rfl (stO _ rfl (stO _ h1 (stO _ (QaP _) ?_)))))))
  cases hI:infB p with
  |true=>
   have hA:=hex hI
   rw [hA] at h2
   rw [hI,hA] at hi
   rw [hA]
   refine stT rfl (stO _ h2 (stO _ (QaP _) (stF rfl ?_)))
   rw [w1,hw]
   simpa using hi
  |false=>
   refine stF rfl (stO _ h2 (stO _ (QaP _) ?_))
   cases hA:aduB p with
   |true=>
    rw [hI,hA] at hi
    refine stT rfl ?_
    rw [w2,hw]
    simpa using hi
   |false=>
    rw [hI,hA] at hi
    refine stF rfl ?_
    rw [hw]
    simpa using hi
theorem Qsh (bn:Bool) (l:List Pe) (hl:l.length≤1000000):Ret lb QaF [.list bn (l.map peE)] (.bool (decide (Qcr 0 l>0))):=
 .top rfl ((Evt.diag (Qs2 lb bn l hl l [] 0 rfl (by simp) (by simp))).mono fun n h=>by rw [Qro];exact h)
end Go.Proofs
set_option linter.unusedSimpArgs false
set_option linter.unusedVariables false
namespace Go.Proofs
open Go.Am
variable (lb:Nat)
abbrev Fau:=Int×Bs
def fauE (f:Fau):List CV:= [.int .i64 f.1, .str f.2]
def QaV (l:List Fau):CV:= .list l.isEmpty (l.map fauE)
def Qay (b:Bool) (e:Int) (at':Bs):List Fau:=bif b then [(e,at')] else []
def QaT:Bs:= [112,97,114,116,121]
theorem QeU (l:List Fau) (e:Int) (s:Bs):l.map fauE++ [[CV.int .i64 e,CV.str s]]=(l++ [(e,s)]).map fauE:=by simp [fauE]
theorem QeY (l:List Fau) (x:Fau):(l.isEmpty&&false)=(l++ [x]).isEmpty:=by simp
theorem Qgc {l:List Fau} (h:l.length≤1000000):room ((l.map fauE).length+1) 24=true:=Qdj (by simp;omega)
theorem acc (c:Bool) (l:List Fau) (e:Int) (s:Bs) (hl:l.length≤999999) (J:Bool→List (List CV)→Option CV):
  (bif c then chkO (room ((l.map fauE).length+1) 24) (J (l.isEmpty&&false) (l.map fauE++ [[CV.int .i64 e,CV.str s]])) else J l.isEmpty (l.map fauE))=J (l++Qay c e s).isEmpty ((l++Qay c e s).map fauE):=by
 cases c with
 |true=>
  refine stC (Qgc (by omega)) ?_
  rw [QeU,QeY l (e,s)];rfl
 |false=>
  show _=J (l++ []).isEmpty ((l++ []).map fauE)
  rw [List.append_nil];rfl
theorem Qbh (c:Bool) (e:Int) (s:Bs):(Qay c e s).length≤1:=by cases c<;>simp [Qay]
def idxF {α:Type} (f:Nat→α→List Fau):Nat→List α→List Fau
 |_, []=> []
 |i,x::t=>f i x++idxF f (i+1) t
theorem Qfu {α:Type} (f:Nat→α→List Fau) (x:α):∀(l:List α) (i:Nat),idxF f i (l++ [x])=idxF f i l++f (i+l.length) x
 | [],i=>by simp [idxF]
 |y::l,i=>by
  simp only [List.cons_append,idxF,Qfu f x l (i+1),List.append_assoc,List.length_cons]
  rw [show i+1+l.length=i+(l.length+1) by omega]
theorem QfA {α:Type} {f:Nat→α→List Fau} {c:Nat} (h:∀i x,(f i x).length≤c):∀(l:List α) (i:Nat),(idxF f i l).length≤c*l.length
 | [],i=>by simp [idxF]
 |y::l,i=>by
  have:=QfA h l (i+1)
  have:=h i y
  simp only [idxF,List.length_append,List.length_cons,Nat.mul_add]
  omega
theorem QgK {n:Nat} {bn:Bool} {ps:List (List CV)} {a:Bool} (h:C lb n QaF [.list bn ps]=some (.bool a)) (l:List Fau) (hl:l.length≤1000000):
  (optO (C lb n QaF [.list bn ps]) fun r=>optO (CV.asB r) fun b=>bif b then (chkO (room ((l.map fauE).length+1) 24) (some (.list (l.isEmpty&&false) (l.map fauE++ [[CV.int .i64 25,CV.str [112,97,114,116,121]]])))) else (some (.list l.isEmpty (l.map fauE))))=some (QaV (l++Qay a 25 QaT)):=by
 refine stO _ h (stO _ (QaP _) ?_)
 cases a with
 |true=>
  refine stT rfl (stC (Qgc hl) ?_)
  rw [QeU,QeY l (25, [112,97,114,116,121])];rfl
 |false=>
  refine stF rfl ?_
  show _=some (QaV (l++ []))
  rw [List.append_nil];rfl
def QaU (n g:Int):Bool:=decide (n+g=0)||((g==0&&decide (n>9))||decide (n+g>99))
theorem Qx7 (bn:Bool) (ps:List Pe) (grp:Int) (l:List Fau) (g:Int) (hps:ps.length≤1000000) (hl:l.length≤999999) (g0:0≤g) (g1:g≤99):
  Evt fun n=>Qh2 lb n bn (ps.map peE) grp l.isEmpty (l.map fauE) g=some (QaV ((l++Qay (QaU ps.length g) 4 QaT)++Qay (decide (Qcr 0 ps>0)) 25 QaT)):=
 (Qsh lb bn ps hps).mono fun n h=>by
  have hlen:(((ps.map peE).length:Nat):Int)=(ps.length:Int):=by simp
  have hw:IntKind.wrap .i64 ((ps.length:Int)+g)=(ps.length:Int)+g:=QaD (by omega) (by omega)
  have bad:(chkO (room ((l.map fauE).length+1) 24) (optO (C lb n QaF [.list bn (ps.map peE)]) fun r=>optO (CV.asB r) fun b=>bif b then (chkO (room ((l.map fauE++ [[CV.int .i64 4,CV.str [112,97,114,116,121]]]).length+1) 24) (some (.list ((l.isEmpty&&false)&&false) ((l.map fauE++ [[CV.int .i64 4,CV.str [112,97,114,116,121]]])++ [[CV.int .i64 25,CV.str [112,97,114,116,121]]])))) else (some (.list (l.isEmpty&&false) (l.map fauE++ [[CV.int .i64 4,CV.str [112,97,114,116,121]]])))))=some (QaV ((l++Qay true 4 QaT)++Qay (decide (Qcr 0 ps>0)) 25 QaT)):=by
   refine stC (Qgc (by omega)) ?_
   rw [QeU,QeY l (4, [112,97,114,116,121])]
   exact QgK lb h (l++ [(4,QaT)]) (by simp;omega)
  have good:∀{r},r=some (QaV (l++Qay (decide (Qcr 0 ps>0)) 25 QaT))→r=some (QaV ((l++Qay false 4 QaT)++Qay (decide (Qcr 0 ps>0)) 25 QaT)):=fun e=>by
   rw [e];show _=some (QaV ((l++ [])++_));rw [List.append_nil]
  rw [Qn4,hlen,hw]
  by_cases h0:(ps.length:Int)+g=0
  ·rw [show QaU ps.length g=true by simp [QaU,h0]]
   exact stT (beqT h0) bad
  refine stF (beqF h0) ?_
  by_cases hg:g=0
  ·refine stT (beqT hg) ?_
   by_cases h9:(ps.length:Int)>9
   ·rw [show QaU ps.length g=true by simp [QaU,hg];omega]
    exact stT (decT h9) bad
   refine stF (decF h9) ?_
   by_cases h99:(ps.length:Int)+g>99
   ·omega
   rw [show QaU ps.length g=false by simp [QaU];omega]
   exact stF (decF h99) (good (QgK lb h l (by omega)))
  ·refine stF (beqF hg) ?_
   by_cases h99:(ps.length:Int)+g>99
   ·rw [show QaU ps.length g=true by simp [QaU];omega]
    exact stT (decT h99) bad
   rw [show QaU ps.length g=false by simp [QaU];omega]
   exact stF (decF h99) (good (QgK lb h l (by omega)))
theorem Que (bn:Bool) (ps:List Pe) (grp:Int) (l:List Fau) (g:Int) (hps:ps.length≤1000000) (hl:l.length≤999999) (g0:0≤g) (g1:g≤99):
  Evt fun n=>QfH lb n bn (ps.map peE) grp l.isEmpty (l.map fauE) g=some (QaV ((l++Qay (QaU ps.length g) 4 QaT)++Qay (decide (Qcr 0 ps>0)) 25 QaT)):=
 (Qsh lb bn ps hps).mono fun n h=>by
  have hlen:(((ps.map peE).length:Nat):Int)=(ps.length:Int):=by simp
  have hw:IntKind.wrap .i64 ((ps.length:Int)+g)=(ps.length:Int)+g:=QaD (by omega) (by omega)
  have bad:(chkO (room ((l.map fauE).length+1) 24) (optO (C lb n QaF [.list bn (ps.map peE)]) fun r=>optO (CV.asB r) fun b=>bif b then (chkO (room ((l.map fauE++ [[CV.int .i64 4,CV.str [112,97,114,116,121]]]).length+1) 24) (some (.list ((l.isEmpty&&false)&&false) ((l.map fauE++ [[CV.int .i64 4,CV.str [112,97,114,116,121]]])++ [[CV.int .i64 25,CV.str [112,97,114,116,121]]])))) else (some (.list (l.isEmpty&&false) (l.map fauE++ [[CV.int .i64 4,CV.str [112,97,114,116,121]]])))))=some (QaV ((l++Qay true 4 QaT)++Qay (decide (Qcr 0 ps>0)) 25 QaT)):=by
   refine stC (Qgc (by omega)) ?_
   rw [QeU,QeY l (4, [112,97,114,116,121])]
   exact QgK lb h (l++ [(4,QaT)]) (by simp;omega)
  have good:∀{r},r=some (QaV (l++Qay (decide (Qcr 0 ps>0)) 25 QaT))→r=some (QaV ((l++Qay false 4 QaT)++Qay (decide (Qcr 0 ps>0)) 25 QaT)):=fun e=>by
   rw [e];show _=some (QaV ((l++ [])++_));rw [List.append_nil]
  rw [Qoh,hlen,hw]
  by_cases h0:(ps.length:Int)+g=0
  ·rw [show QaU ps.length g=true by simp [QaU,h0]]
   exact stT (beqT h0) bad
  refine stF (beqF h0) ?_
  by_cases hg:g=0
  ·refine stT (beqT hg) ?_
   by_cases h9:(ps.length:Int)>9
   ·rw [show QaU ps.length g=true by simp [QaU,hg];omega]
    exact stT (decT h9) bad
   refine stF (decF h9) ?_
   by_cases h99:(ps.length:Int)+g>99
   ·omega
   rw [show QaU ps.length g=false by simp [QaU];omega]
   exact stF (decF h99) (good (QgK lb h l (by omega)))
  ·refine stF (beqF hg) ?_
   by_cases h99:(ps.length:Int)+g>99
   ·rw [show QaU ps.length g=true by simp [QaU];omega]
    exact stT (decT h99) bad
   rw [show QaU ps.length g=false by simp [QaU];omega]
   exact stF (decF h99) (good (QgK lb h l (by omega)))
def Qdp (g:Int):Bool:=decide (g<0)||decide (g>99)
def QhU (ps:List Pe) (g:Int):List Fau:=Qay (Qdp g) 2 QaT++(Qay (QaU ps.length (bif Qdp g then 0 else g)) 4 QaT++Qay (decide (Qcr 0 ps>0)) 25 QaT)
theorem QxP (bn:Bool) (ps:List Pe) (grp:Int) (l:List Fau) (hps:ps.length≤1000000) (hl:l.length≤999998):
  Evt fun n=>QhV lb n bn (ps.map peE) grp l.isEmpty (l.map fauE)=some (QaV (l++QhU ps grp)):=by
 unfold QhU
 by_cases h0:grp<0
 ·have hb:Qdp grp=true:=by simp [Qdp,h0]
  refine (Qx7 lb bn ps grp (l++ [(2,QaT)]) 0 hps (by simp;omega) (by omega) (by omega)).mono fun n h=> ?_
  rw [QfZ]
  refine stT (decT h0) (stC (Qgc (by omega)) ?_)
  rw [Qn6,QeU,QeY l (2, [112,97,114,116,121]),hb]
  simpa [Qay,QaT] using h
 by_cases h1:grp>99
 ·have hb:Qdp grp=true:=by simp [Qdp,h1]
  refine (Que lb bn ps grp (l++ [(2,QaT)]) 0 hps (by simp;omega) (by omega) (by omega)).mono fun n h=> ?_
  rw [QfZ]
  refine stF (decF h0) (stT (decT h1) (stC (Qgc (by omega)) ?_))
  rw [QiV,QeU,QeY l (2, [112,97,114,116,121]),hb]
  refine stT (decT h1) ?_
  simpa [Qay,QaT] using h
 ·have hb:Qdp grp=false:=by simp [Qdp];omega
  refine (Que lb bn ps grp l grp hps (by omega) (by omega) (by omega)).mono fun n h=> ?_
  rw [QfZ]
  refine stF (decF h0) (stF (decF h1) ?_)
  rw [QiV,hb]
  refine stF (decF h1) ?_
  simpa [Qay] using h
def Qca:Bs:= [112,101,114,115,111,110,32]
def perF (i:Nat) (p:Pe):List Fau:=Qay (!QeJ p) 5 (Qca++Lib.itoa (i:Int))++Qay (!Qf2 p) 8 (Qca++Lib.itoa (i:Int))
theorem Qpx (i:Nat) (p:Pe):(perF i p).length≤2:=by
 unfold perF
 have:=Qbh (!QeJ p) 5 (Qca++Lib.itoa (i:Int))
 have:=Qbh (!Qf2 p) 8 (Qca++Lib.itoa (i:Int))
 rw [List.length_append];omega
def QaM (ps:List Pe) (g:Int):List Fau:=idxF perF 0 ps++QhU ps g
theorem Qqk (bn:Bool) (ps:List Pe) (grp:Int) (hps:ps.length≤100000) (hok:∀p∈ps,PeOk p):Ret lb QaN [.list bn (ps.map peE), .int .i64 grp] (QaV (QaM ps grp)):=by
 have hlen:∀l:List Pe,(idxF perF 0 l).length≤2*l.length:=fun l=>QfA Qpx l 0
 refine .top rfl ((Evt.diag (Qd8 (enc:=peE) (l:=ps) (P:=fun p t n k=>QbB lb n k bn (ps.map peE) grp (p.length:Int) (idxF perF 0 p).isEmpty ((idxF perF 0 p).map fauE)=some (QaV (QaM ps grp))) (by omega)
  ((QxP lb bn ps grp (idxF perF 0 ps) (by omega) (by have:=hlen ps;omega)).mono fun n h k=>by
    rw [Qhx]
    exact stF (decF (by simp)) h)
  (fun p x t h h1 h2 h3 ih=>by
   have hpl:p.length+(t.length+1)=ps.length:=by rw [←h];simp
   have hx:PeOk x:=hok x (by rw [←h];simp)
   have hil:=Qfv (z:=(p.length:Int)) (by omega) (by omega)
   have hF:=hlen p
   refine Evt.imp2 (Evt.imp2 (Qww lb x hx) (Evt.imp2 (QwT lb x hx) (Qgt lb (p.length:Int) (by omega) (by omega)) fun n a b=>And.intro a b) fun n a b=>And.intro a b) ih fun n ⟨c1,c2,c3⟩ hi k hk=> ?_
   have hi:=hi k hk
   rw [Qhx]
   refine stT (decT h1) (stO _ h2 (stC rfl (stO _ rfl (stO _ rfl (stO _ rfl (stO _ c3 (stO _ rfl (stC (decT (by simp;omega)) (stO _ c1 (stO _ (QaP _) ?_))))))))))
   rw [h3]
   rw [Qfu,Nat.zero_add] at hi
   rw [show perF p.length x=Qay (!QeJ x) 5 (Qca++Lib.itoa (p.length:Int))++Qay (!Qf2 x) 8 (Qca++Lib.itoa (p.length:Int)) from rfl] at hi
   rw [←List.append_assoc] at hi
   have step:∀l:List Fau,l.length≤999999→(optO (C lb n QdX [.agg [.str x.la, .str x.fi, .str x.ty]]) fun r=>optO (CV.asB r) fun b=>bif (!b) then chkO (room ((l.map fauE).length+1) 24) (QbB lb n k bn (ps.map peE) grp ((p++ [x]).length:Int) (l.isEmpty&&false) (l.map fauE++ [[CV.int .i64 8,CV.str (Qca++Lib.itoa (p.length:Int))]])) else QbB lb n k bn (ps.map peE) grp ((p++ [x]).length:Int) l.isEmpty (l.map fauE))=QbB lb n k bn (ps.map peE) grp ((p++ [x]).length:Int) (l++Qay (!Qf2 x) 8 (Qca++Lib.itoa (p.length:Int))).isEmpty ((l++Qay (!Qf2 x) 8 (Qca++Lib.itoa (p.length:Int))).map fauE):=fun l hl=>
    stO _ c2 (stO _ (QaP _) (acc (!Qf2 x) l 8 (Qca++Lib.itoa (p.length:Int)) hl (fun b l=>QbB lb n k bn (ps.map peE) grp ((p++ [x]).length:Int) b l)))
   cases hn:QeJ x with
   |true=>
    refine stF rfl ((step _ (by omega)).trans ?_)
    rw [hn] at hi
    have e:idxF perF 0 p++Qay (!true) 5 (Qca++Lib.itoa (p.length:Int))=idxF perF 0 p:=List.append_nil _
    rw [e] at hi
    exact hi
   |false=>
    rw [hn] at hi
    refine stT rfl (stC (Qgc (by omega)) ?_)
    rw [QeU,QeY (idxF perF 0 p) (5, [112,101,114,115,111,110,32]++Lib.itoa (p.length:Int))]
    exact (step (idxF perF 0 p++ [(5,Qca++Lib.itoa (p.length:Int))]) (by simp;omega)).trans hi) ps [] rfl)).mono fun n h=>by rw [Qri];exact h)
end Go.Proofs
set_option linter.unusedSimpArgs false
set_option linter.unusedVariables false
namespace Go.Proofs
open Go.Am
variable (lb:Nat)
structure Sv where
 cd:Bs
 pe:Int
 sg:Int
def svE (x:Sv):List CV:= [.str x.cd, .int .i64 x.pe, .int .i64 x.sg]
def Qj4:Bs:= [108,111,99,97,116,111,114]
def Qfk:Bs:= [108,105,109,105,116]
def Qb8:Bs:= [115,101,103,115]
def segS:Bs:= [115,101,103,32]
def QbC:Bs:= [115,101,114,118,105,99,101,32]
def Qhq (x:Int):Bool:=decide (x<0)||decide (x≥52596000)
def Qic (np ns:Int) (x:Sv):Bool:=decide (x.pe<0)||(decide (x.pe≥np)||(decide (x.sg<0)||decide (x.sg≥ns)))
def svF (np ns:Int) (i:Nat) (x:Sv):List Fau:=Qay (!Qb9 x.cd 4 4) 5 (QbC++Lib.itoa (i:Int))++Qay (Qic np ns x) 7 (QbC++Lib.itoa (i:Int))
def segF (i:Nat) (s:Sg):List Fau:=(QbX s).map fun e=>(e,segS++Lib.itoa (i:Int))
def QkG (loc:Bs) (ps:List Pe) (g:Int) (l:List Sg) (svs:List Sv) (lim:Int):List Fau:=
 (((((Qay (!Qb9 loc 6 6) 5 Qj4++Qay (Qhq lim) 13 Qfk)++QaM ps g)++Qay (decide ((l.length:Int)>24)) 4 Qb8)++Qay (marE (mars l) !=0) (marE (mars l)) Qb8)++idxF segF 0 l)++idxF (svF ps.length l.length) 0 svs
theorem accT (l:List Fau) (e:Int) (s:Bs) (hl:l.length≤999999) (J:Bool→List (List CV)→Option CV):
  chkO (room ((l.map fauE).length+1) 24) (J (l.isEmpty&&false) (l.map fauE++ [[CV.int .i64 e,CV.str s]]))=J (l++Qay true e s).isEmpty ((l++Qay true e s).map fauE):=by
 refine stC (Qgc (by omega)) ?_
 rw [QeU,QeY l (e,s)];rfl
theorem accF (l:List Fau) (e:Int) (s:Bs) (J:Bool→List (List CV)→Option CV):J l.isEmpty (l.map fauE)=J (l++Qay false e s).isEmpty ((l++Qay false e s).map fauE):=by
 show _=J (l++ []).isEmpty ((l++ []).map fauE)
 rw [List.append_nil]
theorem Qvo (np ns:Int) (i:Nat) (x:Sv):(svF np ns i x).length≤2:=by
 unfold svF
 have:=Qbh (!Qb9 x.cd 4 4) 5 (QbC++Lib.itoa (i:Int))
 have:=Qbh (Qic np ns x) 7 (QbC++Lib.itoa (i:Int))
 rw [List.length_append];omega
theorem Qkn (b:Bool) (e:Int):(Qbt b e).length≤1:=by cases b<;>simp [Qbt]
theorem Qg8 (s:Sg):(QbX s).length≤4:=by
 unfold QbX
 have:=Qkn (QcT s) 5
 have:=Qkn (Qd2 s) 13
 have:=Qkn (Qdn s.cls) 16
 have:=Qkn (stOk s.st) 10
 simp only [List.length_append];omega
theorem Qtt (i:Nat) (s:Sg):(segF i s).length≤4:=by unfold segF;rw [List.length_map];exact Qg8 s
theorem QzX (n yQ:Nat) (jj:List UInt8) (jb:Bool) (jf:List (List CV)) (jg:Int) (je:Bool) (ja:List (List CV)) (jd:Bool) (jh:List (List CV)) (jc:Int) (js:CV) (j9:Int) (yO:List UInt8) (jr:Bool) (jq:List (List CV)) (jl:CV) (jp:Bool×List (List CV)) (ju:CV) (vH:List CV) (yr vw vE vY:CV) (x:Sv) (h7:vw= .int .i64 x.pe) (h8:vE= .int .i64 x.sg) (G:List Fau) (hG:G.length≤999999):
  Qds lb n yQ jj jb jf jg je ja jd jh jc js j9 yO jr jq jl jp ju vH yr vw vE vY G.isEmpty (G.map fauE)=Qbf lb n yQ jj jb jf jg je ja jd jh jc js jr jq jl jp ju (IntKind.wrap .i64 (j9+1)) (G++Qay (Qic jf.length ja.length x) 7 (QbC++yO)).isEmpty ((G++Qay (Qic jf.length ja.length x) 7 (QbC++yO)).map fauE):=by
 subst h7;subst h8
 have hT:=accT G 7 (QbC++yO) hG (fun b l=>Qbf lb n yQ jj jb jf jg je ja jd jh jc js jr jq jl jp ju (IntKind.wrap .i64 (j9+1)) b l)
 have hF:=accF G 7 (QbC++yO) (fun b l=>Qbf lb n yQ jj jb jf jg je ja jd jh jc js jr jq jl jp ju (IntKind.wrap .i64 (j9+1)) b l)
 rw [QlL]
 unfold Qic
 refine stO _ (QaE ..) ?_
 cases decide (x.pe<0) with
 |true=>exact stT rfl hT
 |false=>
  refine stF rfl (stO _ (QaE ..) ?_)
  cases decide (x.pe≥(jf.length:Int)) with
  |true=>exact stT rfl hT
  |false=>
   refine stF rfl (stO _ (QaE ..) ?_)
   cases decide (x.sg<0) with
   |true=>exact stT rfl hT
   |false=>
    refine stF rfl (stO _ (QaE ..) ?_)
    cases decide (x.sg≥(ja.length:Int)) with
    |true=>exact stT rfl hT
    |false=>exact stF rfl hF
theorem QAg (n:Nat) (jj:List UInt8) (jb:Bool) (jf:List (List CV)) (jg:Int) (je:Bool) (ja:List (List CV)) (jd:Bool) (jh:List (List CV)) (jc:Int) (js:CV) (jr:Bool) (jq:List (List CV)) (jl:CV) (jp:Bool×List (List CV)) (ju:CV) (svs:List Sv) (h9:jh=svs.map svE) (hl:svs.length≤100000) (hok:∀x∈svs,x.cd.length≤281474976710656) (F:List Fau) (hF:F.length≤500000):
  Evt fun n=>Qgu lb n jj jb jf jg je ja jd jh jc js jr jq jl jp ju F.isEmpty (F.map fauE)=some (QaV (F++idxF (svF jf.length ja.length) 0 svs)):=by
 subst h9
 have hlen:∀l:List Sv,(idxF (svF jf.length ja.length) 0 l).length≤2*l.length:=fun l=>QfA (Qvo _ _) l 0
 refine (Evt.diag (Qd8 (enc:=svE) (l:=svs) (P:=fun p t n k=>Qbf lb n k jj jb jf jg je ja jd (svs.map svE) jc js jr jq jl jp ju (p.length:Int) (F++idxF (svF jf.length ja.length) 0 p).isEmpty ((F++idxF (svF jf.length ja.length) 0 p).map fauE)=some (QaV (F++idxF (svF jf.length ja.length) 0 svs))) (by omega)
  (.all fun n k=>by
   rw [QgQ]
   refine stF (decF (by simp)) ?_
   rw [QlG]
   rfl)
  (fun p x t h h1 h2 h3 ih=>by
   have hpl:p.length+(t.length+1)=svs.length:=by rw [←h];simp
   have hx:=hok x (by rw [←h];simp)
   have hil:=Qfv (z:=(p.length:Int)) (by omega) (by omega)
   have hP:=hlen p
   refine Evt.imp2 (Evt.imp2 (Qgd lb x.cd 4 4 hx) (Qgt lb (p.length:Int) (by omega) (by omega)) fun n a b=>And.intro a b) ih fun n ⟨c1,c2⟩ hi k hk=> ?_
   have hi:=hi k hk
   rw [QgQ]
   refine stT (decT h1) (stO _ h2 (stC rfl (stO _ rfl (stO _ rfl (stO _ rfl (stO _ c2 (stO _ rfl (stC (decT (by simp;omega)) (stO _ c1 (stO _ (QaP _) ?_))))))))))
   refine (acc (!Qb9 x.cd 4 4) (F++idxF (svF jf.length ja.length) 0 p) 5 (QbC++Lib.itoa (p.length:Int)) (by simp;omega) (fun b l=>Qds lb n k jj jb jf jg je ja jd (svs.map svE) jc js (p.length:Int) (Lib.itoa (p.length:Int)) jr jq jl jp ju (svE x) (.str x.cd) (.int .i64 x.pe) (.int .i64 x.sg) (.str (Lib.itoa (p.length:Int))) b l)).trans ?_
   refine (QzX (x:=x) (h7:=rfl) (h8:=rfl) (hG:=by
    have:=Qbh (!Qb9 x.cd 4 4) 5 (QbC++Lib.itoa (p.length:Int))
    rw [List.length_append,List.length_append];omega) ..).trans ?_
   rw [h3]
   rw [Qfu,Nat.zero_add] at hi
   rw [show svF jf.length ja.length p.length x=Qay (!Qb9 x.cd 4 4) 5 (QbC++Lib.itoa (p.length:Int))++Qay (Qic jf.length ja.length x) 7 (QbC++Lib.itoa (p.length:Int)) from rfl] at hi
   simp only [List.append_assoc] at hi⊢
   exact hi) svs [] rfl)).mono fun n h=>by
   rw [QmM]
   have e:F++idxF (svF jf.length ja.length) 0 ([]:List Sv)=F:=List.append_nil F
   rw [e] at h
   exact h
theorem QyA (n y3:Nat) (jj:List UInt8) (jb:Bool) (jf:List (List CV)) (jg:Int) (je:Bool) (ja:List (List CV)) (jd:Bool) (jh:List (List CV)) (jc:Int) (js:CV) (yt:Int) (jr:Bool) (jq:List (List CV)) (jl:CV) (jp:Bool×List (List CV)) (ju:CV) (yA:List CV) (wp wk wg wn jy jz yf jC jA jB y2:CV) (vz:Bool×List (List CV)) (m:Nat) (h59:yt=(m:Int)) (hm:m≤1000000) (er:List Int) (hr:y2=errV er) (hp:vz=(er.isEmpty,er.map icv)) (her:er.length≤10) (F:List Fau) (hF:F.length≤900000) (hdec:C lb n QdF [.int .i64 yt]=some (.str (Lib.itoa (m:Int)))):∀(t p:List Int),p++t=er→∀k,t.length<k→
  QdR lb n k y3 jj jb jf jg je ja jd jh jc js yt jr jq jl jp ju yA wp wk wg wn jy jz yf jC jA jB y2 vz (p.length:Int) (F++p.map fun e=>(e,segS++Lib.itoa (m:Int))).isEmpty ((F++p.map fun e=>(e,segS++Lib.itoa (m:Int))).map fauE)=QdL lb n y3 jj jb jf jg je ja jd jh jc js jr jq jl jp ju (IntKind.wrap .i64 (yt+1)) (F++er.map fun e=>(e,segS++Lib.itoa (m:Int))).isEmpty ((F++er.map fun e=>(e,segS++Lib.itoa (m:Int))).map fauE)
 | [],p,h,k,hk=>by
  obtain ⟨k,rfl⟩:∃j,k=j+1:=⟨k-1,by simp at hk;omega⟩
  have hpe:p=er:=by simpa using h
  subst hpe;subst hp
  rw [QgO]
  refine stF (decF (by simp)) ?_
  rw [QmL]
 |e::t,p,h,k,hk=>by
  obtain ⟨k,rfl⟩:∃j,k=j+1:=⟨k-1,by simp at hk;omega⟩
  have hpl:p.length+(t.length+1)=er.length:=by rw [←h];simp
  have hil:=Qfv (z:=(m:Int)) (by omega) (by omega)
  have hw:IntKind.wrap .i64 ((p.length:Int)+1)=((p++ [e]).length:Int):=by rw [QaD (by omega) (by omega)];simp
  have hat:atL (er.map icv) (p.length:Int)=some (icv e):=Qa9 (by rw [List.getElem?_map,←h];simp)
  have ih:=QyA n y3 jj jb jf jg je ja jd jh jc js yt jr jq jl jp ju yA wp wk wg wn jy jz yf jC jA jB y2 vz m h59 hm er hr hp her F hF hdec t (p++ [e]) (by rw [←h];simp) k (by simp at hk;omega)
  have hFl:(F++p.map fun e=>(e,segS++Lib.itoa (m:Int))).length≤999999:=by rw [List.length_append,List.length_map];omega
  subst hr;subst hp
  rw [QgO]
  refine stT (decT (by simp;omega)) (stO _ rfl (stO _ hat (stC rfl (stO _ rfl (stO _ hdec (stO _ rfl (stC (decT (by simp;omega)) (stC rfl ?_))))))))
  refine (accT (F++p.map fun e=>(e,segS++Lib.itoa (m:Int))) e (segS++Lib.itoa (m:Int)) hFl (fun b l=>QdR lb n k y3 jj jb jf jg je ja jd jh jc js yt jr jq jl jp ju yA wp wk wg wn jy jz yf jC jA jB (errV er) (er.isEmpty,er.map icv) (IntKind.wrap .i64 ((p.length:Int)+1)) b l)).trans ?_
  rw [hw]
  rw [List.map_append,←List.append_assoc] at ih
  exact ih
theorem QAo (n:Nat) (jj:List UInt8) (jb:Bool) (jf:List (List CV)) (jg:Int) (je:Bool) (ja:List (List CV)) (jd:Bool) (jh:List (List CV)) (jc:Int) (js:CV) (jr:Bool) (jq:List (List CV)) (jl:CV) (jp:Bool×List (List CV)) (ju:CV) (segs:List Sg) (h6:ja=segs.map sgE) (hs:segs.length≤1000) (hsok:∀s∈segs,s.car.length≤281474976710656∧s.fr.length≤281474976710656∧s.to.length≤281474976710656) (svs:List Sv) (h9:jh=svs.map svE) (hl:svs.length≤100000) (hok:∀x∈svs,x.cd.length≤281474976710656) (F:List Fau) (hF:F.length≤400000):
  Evt fun n=>QdP lb n jj jb jf jg je ja jd jh jc js jr jq jl jp ju F.isEmpty (F.map fauE)=some (QaV ((F++idxF segF 0 segs)++idxF (svF jf.length ja.length) 0 svs)):=by
 have hlen:∀l:List Sg,(idxF segF 0 l).length≤4*l.length:=fun l=>QfA Qtt l 0
 have h8:=QAg lb 0 jj jb jf jg je ja jd jh jc js jr jq jl jp ju svs h9 hl hok (F++idxF segF 0 segs) (by have:=hlen segs;rw [List.length_append];omega)
 subst h6
 refine (Evt.diag (Qd8 (enc:=sgE) (l:=segs) (P:=fun p t n k=>QdL lb n k jj jb jf jg je (segs.map sgE) jd jh jc js jr jq jl jp ju (p.length:Int) (F++idxF segF 0 p).isEmpty ((F++idxF segF 0 p).map fauE)=some (QaV ((F++idxF segF 0 segs)++idxF (svF jf.length (segs.map sgE).length) 0 svs))) (by omega)
  (h8.mono fun n h k=>by
   rw [QgH]
   exact stF (decF (by simp)) h)
  (fun p x t h h1 h2 h3 ih=>by
   have hpl:p.length+(t.length+1)=segs.length:=by rw [←h];simp
   have hx:=hsok x (by rw [←h];simp)
   have hP:=hlen p
   refine Evt.imp2 (Evt.imp2 (QyW lb x hx.1 hx.2.1 hx.2.2) (Evt.imp2 (Qgt lb (p.length:Int) (by omega) (by omega)) (Evt.ge 6) fun n a b=>And.intro a b) fun n a b=>And.intro a b) ih fun n ⟨c1,c2,c3⟩ hi k hk=> ?_
   have hi:=hi k hk
   rw [QgH]
   refine stT (decT h1) (stO _ h2 (stC rfl (stO _ rfl (stO _ rfl (stO _ rfl (stO _ rfl (stO _ rfl (stO _ rfl (stO _ rfl (stO _ rfl (stO _ rfl (stO _ rfl (stO _ c1 (stO _ rfl ?_))))))))))))))
   have hL:=QyA (lb:=lb) (n:=n) (y3:=k) (m:=p.length) (yt:=(p.length:Int)) (h59:=rfl) (hm:=by omega) (er:=QbX x) (y2:=errV (QbX x)) (vz:=((QbX x).isEmpty,(QbX x).map icv)) (hr:=rfl) (hp:=rfl) (her:=by have:=Qg8 x;omega) (F:=F++idxF segF 0 p) (hF:=by rw [List.length_append];omega) (hdec:=c2) (jj:=jj) (jb:=jb) (jf:=jf) (jg:=jg) (je:=je) (ja:=segs.map sgE) (jd:=jd) (jh:=jh) (jc:=jc) (js:=js) (jr:=jr) (jq:=jq) (jl:=jl) (jp:=jp) (ju:=ju) (yA:=sgE x) (wp:= .str x.car) (wk:= .int .i64 x.num) (wg:= .int .i64 x.day) (wn:= .str x.fr) (jy:= .str x.to) (jz:= .int .i64 x.dep) (yf:= .int .i64 x.arr) (jC:= .str x.cls) (jA:= .int .i64 x.st) (jB:= .int .i64 x.mar) (QbX x) [] rfl n (by have:=Qg8 x;omega)
   rw [List.map_nil,List.append_nil,h3] at hL
   refine Eq.trans hL ?_
   rw [Qfu,Nat.zero_add] at hi
   rw [show segF p.length x=(QbX x).map (fun e=>(e,segS++Lib.itoa (p.length:Int))) from rfl] at hi
   rw [List.append_assoc]
   exact hi) segs [] rfl)).mono fun n h=>by
   rw [QmG]
   have e:F++idxF segF 0 ([]:List Sg)=F:=List.append_nil F
   rw [e] at h
   exact h
theorem QuG (s:Bs) (hs:s.length≤281474976710656):Ret lb QfX [.str s] (.bool (Qb9 s 6 6)):=
 .top rfl ((Qgd lb s 6 6 hs).mono fun n h=>by
  rw [Qnp]
  exact stO _ h rfl)
theorem Qu0 (ps:List Pe) (g:Int):(QaM ps g).length≤2*ps.length+3:=by
 unfold QaM QhU
 have:=QfA Qpx ps 0
 have:=Qbh (Qdp g) 2 QaT
 have:=Qbh (QaU ps.length (bif Qdp g then 0 else g)) 4 QaT
 have:=Qbh (decide (Qcr 0 ps>0)) 25 QaT
 simp only [List.length_append];omega
theorem QAC (n:Nat) (jj:List UInt8) (jb:Bool) (jf:List (List CV)) (jg:Int) (je:Bool) (ja:List (List CV)) (jd:Bool) (jh:List (List CV)) (jc:Int) (jr:Bool) (jq:List (List CV)) (jl:CV) (jp:Bool×List (List CV)) (segs:List Sg) (h6:ja=segs.map sgE) (hs:segs.length≤1000) (hsok:∀s∈segs,s.car.length≤281474976710656∧s.fr.length≤281474976710656∧s.to.length≤281474976710656) (svs:List Sv) (h9:jh=svs.map svE) (hl:svs.length≤100000) (hok:∀x∈svs,x.cd.length≤281474976710656) (F:List Fau) (hF:F.length≤300000):
  Evt fun n=>Qcm lb n jj jb jf jg je ja jd jh jc jr jq jl jp F.isEmpty (F.map fauE)=some (QaV (((F++Qay (marE (mars segs) !=0) (marE (mars segs)) Qb8)++idxF segF 0 segs)++idxF (svF jf.length ja.length) 0 svs)):=by
 have h4:=QAo lb 0 jj jb jf jg je ja jd jh jc (.int .i64 (marE (mars segs))) jr jq jl jp (.list false ((mars segs).map icv)) segs h6 hs hsok svs h9 hl hok (F++Qay (marE (mars segs) !=0) (marE (mars segs)) Qb8) (by
  have:=Qbh (marE (mars segs) !=0) (marE (mars segs)) Qb8
  rw [List.length_append];omega)
 have hmm:(mars segs).length≤1000:=by simpa [mars] using hs
 subst h6
 refine Evt.imp2 (Evt.imp2 (Qml lb je segs (by omega)) (Qko lb false (mars segs) (by omega)) fun n a b=>And.intro a b) h4 fun n ⟨c1,c2⟩ h=> ?_
 rw [QmI]
 refine stO _ c1 (stO _ c2 (stO _ (QaE ..) ?_))
 exact (acc (marE (mars segs) !=0) F (marE (mars segs)) Qb8 (by omega) (fun b l=>QdP lb n jj jb jf jg je (segs.map sgE) jd jh jc (.int .i64 (marE (mars segs))) jr jq jl jp (.list false ((mars segs).map icv)) b l)).trans h
theorem QAn (n:Nat) (jj:List UInt8) (jb:Bool) (jf:List (List CV)) (jg:Int) (je:Bool) (ja:List (List CV)) (jd:Bool) (jh:List (List CV)) (jc:Int) (ps:List Pe) (h3:jf=ps.map peE) (hps:ps.length≤1000) (hpok:∀p∈ps,PeOk p) (segs:List Sg) (h6:ja=segs.map sgE) (hs:segs.length≤1000) (hsok:∀s∈segs,s.car.length≤281474976710656∧s.fr.length≤281474976710656∧s.to.length≤281474976710656) (svs:List Sv) (h9:jh=svs.map svE) (hl:svs.length≤100000) (hok:∀x∈svs,x.cd.length≤281474976710656) (F:List Fau) (hF:F.length≤10):
  Evt fun n=>Qcn lb n jj jb jf jg je ja jd jh jc F.isEmpty (F.map fauE)=some (QaV (((((F++QaM ps jg)++Qay (decide ((segs.length:Int)>24)) 4 Qb8)++Qay (marE (mars segs) !=0) (marE (mars segs)) Qb8)++idxF segF 0 segs)++idxF (svF ps.length segs.length) 0 svs)):=by
 have hpl:=Qu0 ps jg
 have h4:=QAC lb 0 jj jb jf jg je ja jd jh jc F.isEmpty (F.map fauE) (QaV (QaM ps jg)) ((QaM ps jg).isEmpty,(QaM ps jg).map fauE) segs h6 hs hsok svs h9 hl hok ((F++QaM ps jg)++Qay (decide ((segs.length:Int)>24)) 4 Qb8) (by
  have:=Qbh (decide ((segs.length:Int)>24)) 4 Qb8
  simp only [List.length_append];omega)
 subst h3;subst h6
 rw [List.length_map,List.length_map] at h4
 refine Evt.imp2 (Qqk lb jb ps jg (by omega) hpok) h4 fun n c1 h=> ?_
 rw [QmJ]
 refine stO _ c1 (stO _ rfl (stC (by simp [fauE]) (stC (Qdj (by simp;omega)) ?_)))
 have e0:∀a b:List Fau,(a.isEmpty&&(b.map fauE).isEmpty)=(a++b).isEmpty:=fun a b=>by cases a<;>cases b<;>rfl
 have e1:=e0 F (QaM ps jg)
 have e2:F.map fauE++(QaM ps jg).map fauE=(F++QaM ps jg).map fauE:=by simp
 show (bif decide ((((segs.map sgE).length:Nat):Int)>24) then chkO (room ((F.map fauE++(QaM ps jg).map fauE).length+1) 24) (Qcm lb n jj jb (ps.map peE) jg je (segs.map sgE) jd jh jc F.isEmpty (F.map fauE) (QaV (QaM ps jg)) ((QaM ps jg).isEmpty,(QaM ps jg).map fauE) ((F.isEmpty&&((QaM ps jg).map fauE).isEmpty)&&false) ((F.map fauE++(QaM ps jg).map fauE)++ [[CV.int .i64 4,CV.str Qb8]])) else Qcm lb n jj jb (ps.map peE) jg je (segs.map sgE) jd jh jc F.isEmpty (F.map fauE) (QaV (QaM ps jg)) ((QaM ps jg).isEmpty,(QaM ps jg).map fauE) (F.isEmpty&&((QaM ps jg).map fauE).isEmpty) (F.map fauE++(QaM ps jg).map fauE))=_
 rw [e1,e2,List.length_map]
 exact (acc (decide ((segs.length:Int)>24)) (F++QaM ps jg) 4 Qb8 (by rw [List.length_append];omega) (fun b l=>Qcm lb n jj jb (ps.map peE) jg je (segs.map sgE) jd jh jc F.isEmpty (F.map fauE) (QaV (QaM ps jg)) ((QaM ps jg).isEmpty,(QaM ps jg).map fauE) b l)).trans h
theorem Qn3 (loc:Bs) (pn:Bool) (ps:List Pe) (g:Int) (bn:Bool) (l:List Sg) (rn:Bool) (svs:List Sv) (lim:Int) (hloc:loc.length≤281474976710656) (hps:ps.length≤1000) (hpok:∀p∈ps,PeOk p) (hs:l.length≤1000) (hsok:∀s∈l,s.car.length≤281474976710656∧s.fr.length≤281474976710656∧s.to.length≤281474976710656) (hl:svs.length≤100000) (hok:∀x∈svs,x.cd.length≤281474976710656):
  Ret lb Qac [.agg [.str loc, .list pn (ps.map peE), .int .i64 g, .list bn (l.map sgE), .list rn (svs.map svE), .int .i64 lim]] (QaV (QkG loc ps g l svs lim)):=by
 have h1:∀F:List Fau,F.length≤9→Evt fun n=>QeF lb n loc pn (ps.map peE) g bn (l.map sgE) rn (svs.map svE) lim F.isEmpty (F.map fauE)=some (QaV ((((((F++Qay (Qhq lim) 13 Qfk)++QaM ps g)++Qay (decide ((l.length:Int)>24)) 4 Qb8)++Qay (marE (mars l) !=0) (marE (mars l)) Qb8)++idxF segF 0 l)++idxF (svF ps.length l.length) 0 svs)):=fun F hF=>by
  refine (QAn lb 0 loc pn (ps.map peE) g bn (l.map sgE) rn (svs.map svE) lim ps rfl hps hpok l rfl hs hsok svs rfl hl hok (F++Qay (Qhq lim) 13 Qfk) (by
   have:=Qbh (Qhq lim) 13 Qfk
   rw [List.length_append];omega)).mono fun n h=> ?_
  have hT:=accT F 13 Qfk (by omega) (fun b m=>Qcn lb n loc pn (ps.map peE) g bn (l.map sgE) rn (svs.map svE) lim b m)
  have hN:=accF F 13 Qfk (fun b m=>Qcn lb n loc pn (ps.map peE) g bn (l.map sgE) rn (svs.map svE) lim b m)
  rw [QmK]
  unfold Qhq at h⊢
  cases h0:decide (lim<0) with
  |true=>rw [h0] at h;exact stT rfl (hT.trans h)
  |false=>
   rw [h0] at h
   refine stF rfl ?_
   cases h9:decide (lim≥52596000) with
   |true=>rw [h9] at h;exact stT rfl (hT.trans h)
   |false=>rw [h9] at h;exact stF rfl (hN.trans h)
 refine .top rfl (Evt.imp2 (QuG lb loc hloc) (h1 (Qay (!Qb9 loc 6 6) 5 Qj4) (by have:=Qbh (!Qb9 loc 6 6) 5 Qj4;omega)) fun n c h=> ?_)
 rw [Qpy]
 refine stO _ c (stO _ (QaP _) ?_)
 unfold QkG
 cases hc:Qb9 loc 6 6 with
 |true=>rw [hc] at h;exact stF rfl h
 |false=>rw [hc] at h;exact stT rfl h
end Go.Proofs
