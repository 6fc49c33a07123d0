/- Chapter 35: bookings compared, small bookings, seats, on plain data. Conditions: as each says. -/
import Derived.Test.YtigmcfhmpcajlaaGreatDoorBC
import Derived.Test.YtigmcfhmpcajlaaGreatDoorGs
set_option linter.unusedSimpArgs false
set_option linter.unusedVariables false
namespace Go.Proofs
open Go.Am
variable (lb:Nat)
structure Bk where
 loc:Bs
 pn:Bool
 ps:List Pe
 grp:Int
 bn:Bool
 segs:List Sg
 rn:Bool
 svs:List Sv
 lim:Int
def bkE (b:Bk):List CV:= [.str b.loc, .list b.pn (b.ps.map peE), .int .i64 b.grp, .list b.bn (b.segs.map sgE), .list b.rn (b.svs.map svE), .int .i64 b.lim]
def peq (p q:Pe):Bool:=(p.la==q.la)&&((p.fi==q.fi)&&((p.ty==q.ty)&&true))
def svq (p q:Sv):Bool:=(p.cd==q.cd)&&((p.pe==q.pe)&&((p.sg==q.sg)&&true))
def sgq (p q:Sg):Bool:=(p.car==q.car)&&((p.num==q.num)&&((p.day==q.day)&&((p.fr==q.fr)&&((p.to==q.to)&&((p.dep==q.dep)&&((p.arr==q.arr)&&((p.cls==q.cls)&&((p.st==q.st)&&((p.mar==q.mar)&&true)))))))))
def QcC {α:Type} (q:α→α→Bool):List α→List α→Bool
 | [], []=>true
 |x::a,y::b=>q x y&&QcC q a b
 |_,_=>false
theorem Qky {α:Type} (q:α→α→Bool):∀(l m:List α),l.length≠m.length→QcC q l m=false
 | [], [],h=>absurd rfl h
 | [],_::_,_=>rfl
 |_::_, [],_=>rfl
 |x::a,y::b,h=>by
  have:=Qky q a b (by simpa using h)
  simp only [QcC,this,Bool.and_false]
theorem Qi9 {α:Type} {q:α→α→Bool} (h:∀x,q x x=true):∀l:List α,QcC q l l=true
 | []=>rfl
 |x::a=>by simp only [QcC,h x,Qi9 h a,Bool.and_self]
theorem Qxu (p:Pe):peq p p=true:=by simp [peq]
theorem Qxx (p:Sv):svq p p=true:=by simp [svq]
theorem QxG (p:Sg):sgq p p=true:=by simp [sgq]
def QnV (a b:Bk):Bool:=(a.loc==b.loc)&&((a.grp==b.grp)&&((a.lim==b.lim)&&(QcC peq a.ps b.ps&&(QcC sgq a.segs b.segs&&QcC svq a.svs b.svs))))
theorem Qhh (a:Bk):QnV a a=true:=by
 simp [QnV,Qi9 Qxu,Qi9 QxG,Qi9 Qxx]
theorem Qu7 (a b:Bk) (h1:a.ps.length≤1000000) (h2:a.segs.length≤1000000) (h3:a.svs.length≤1000000) (e1:a.ps.length=b.ps.length) (e2:a.segs.length=b.segs.length) (e3:a.svs.length=b.svs.length) (n:Nat) (hn:a.ps.length+a.segs.length+a.svs.length<n) (yp yY:Int):∀(t u p q:List Sv),p++t=a.svs→q++u=b.svs→p.length=q.length→t.length=u.length→∀k,t.length<k→Qih lb n k a.loc a.pn (a.ps.map peE) a.grp a.bn (a.segs.map sgE) a.rn (a.svs.map svE) a.lim b.loc b.pn (b.ps.map peE) b.grp b.bn (b.segs.map sgE) b.rn (b.svs.map svE) b.lim yp yY (p.length:Int)=some (.bool (QcC svq t u&&true))
 | [],u,p,q,hp,hq,hpq,htu,k,hk=>by
  obtain ⟨k,rfl⟩:∃j,k=j+1:=⟨k-1,by simp at hk;omega⟩
  have hu:u= []:=List.eq_nil_of_length_eq_zero (by simpa using htu.symm)
  subst hu
  have:p=a.svs:=by simpa using hp
  rw [QjA]
  refine stF (decF (by simp [this])) ?_
  show _=some (CV.bool (true))
  rw [Qrq]
 |x::t, [],p,q,hp,hq,hpq,htu,k,hk=>by simp at htu
 |x::t,y::u,p,q,hp,hq,hpq,htu,k,hk=>by
  obtain ⟨k,rfl⟩:∃j,k=j+1:=⟨k-1,by simp at hk;omega⟩
  have hpl:p.length+(t.length+1)=a.svs.length:=by rw [←hp];simp
  have h1':atL (a.svs.map svE) (p.length:Int)=some (svE x):=Qa9 (by rw [List.getElem?_map,←hp];simp)
  have h2':atL (b.svs.map svE) (p.length:Int)=some (svE y):=by rw [hpq];exact Qa9 (by rw [List.getElem?_map,←hq];simp)
  have hw:IntKind.wrap .i64 ((p.length:Int)+1)=((p++ [x]).length:Int):=by rw [QaD (by omega) (by omega)];simp
  have ih:=Qu7 a b h1 h2 h3 e1 e2 e3 n hn yp yY t u (p++ [x]) (q++ [y]) (by rw [←hp];simp) (by rw [←hq];simp) (by simp [hpq]) (by simpa using htu) k (by simp at hk;omega)
  rw [QjA]
  refine stT (decT (by simp;omega)) (stO _ h1' (stC rfl (stO _ rfl (stO _ rfl (stO _ rfl (stO _ h2' (stC rfl (stO _ rfl (stO _ rfl (stO _ rfl (stO _ rfl (stO _ rfl (stO _ (QaE ..) (stO _ (QaE ..) (stO _ (QaE ..) (stO _ (QaE ..) (?_)))))))))))))))))
  rw [hw]
  cases hxy:svq x y with
  |true=>exact stF (show (!(svq x y))=false by rw [hxy];rfl) (ih.trans (by simp [QcC,hxy]))
  |false=>exact stT (show (!(svq x y))=true by rw [hxy];rfl) (by simp [QcC,hxy])
theorem QuZ (a b:Bk) (h1:a.ps.length≤1000000) (h2:a.segs.length≤1000000) (h3:a.svs.length≤1000000) (e1:a.ps.length=b.ps.length) (e2:a.segs.length=b.segs.length) (e3:a.svs.length=b.svs.length) (n:Nat) (hn:a.ps.length+a.segs.length+a.svs.length<n) (yp:Int):∀(t u p q:List Sg),p++t=a.segs→q++u=b.segs→p.length=q.length→t.length=u.length→∀k,t.length<k→Qh6 lb n k a.loc a.pn (a.ps.map peE) a.grp a.bn (a.segs.map sgE) a.rn (a.svs.map svE) a.lim b.loc b.pn (b.ps.map peE) b.grp b.bn (b.segs.map sgE) b.rn (b.svs.map svE) b.lim yp (p.length:Int)=some (.bool (QcC sgq t u&&QcC svq a.svs b.svs))
 | [],u,p,q,hp,hq,hpq,htu,k,hk=>by
  obtain ⟨k,rfl⟩:∃j,k=j+1:=⟨k-1,by simp at hk;omega⟩
  have hu:u= []:=List.eq_nil_of_length_eq_zero (by simpa using htu.symm)
  subst hu
  have:p=a.segs:=by simpa using hp
  rw [Qjr]
  refine stF (decF (by simp [this])) ?_
  show _=some (CV.bool (QcC svq a.svs b.svs))
  rw [Qrm]
  exact (Qu7 lb a b h1 h2 h3 e1 e2 e3 n hn yp _ a.svs b.svs [] [] rfl rfl rfl e3 n (by omega)).trans (by rw [Bool.and_true])
 |x::t, [],p,q,hp,hq,hpq,htu,k,hk=>by simp at htu
 |x::t,y::u,p,q,hp,hq,hpq,htu,k,hk=>by
  obtain ⟨k,rfl⟩:∃j,k=j+1:=⟨k-1,by simp at hk;omega⟩
  have hpl:p.length+(t.length+1)=a.segs.length:=by rw [←hp];simp
  have h1':atL (a.segs.map sgE) (p.length:Int)=some (sgE x):=Qa9 (by rw [List.getElem?_map,←hp];simp)
  have h2':atL (b.segs.map sgE) (p.length:Int)=some (sgE y):=by rw [hpq];exact Qa9 (by rw [List.getElem?_map,←hq];simp)
  have hw:IntKind.wrap .i64 ((p.length:Int)+1)=((p++ [x]).length:Int):=by rw [QaD (by omega) (by omega)];simp
  have ih:=QuZ a b h1 h2 h3 e1 e2 e3 n hn yp t u (p++ [x]) (q++ [y]) (by rw [←hp];simp) (by rw [←hq];simp) (by simp [hpq]) (by simpa using htu) k (by simp at hk;omega)
  rw [Qjr]
  refine stT (decT (by simp;omega)) (stO _ h1' (stC rfl (stO _ rfl (stO _ rfl (stO _ rfl (stO _ rfl (stO _ rfl (stO _ rfl (stO _ rfl (stO _ rfl (stO _ rfl (stO _ rfl (stO _ h2' (stC rfl (stO _ rfl (stO _ rfl (stO _ rfl (stO _ rfl (stO _ rfl (stO _ rfl (stO _ rfl (stO _ rfl (stO _ rfl (stO _ rfl (stO _ rfl (stO _ rfl (stO _ (QaE ..) (stO _ (QaE ..) (stO _ (QaE ..) (stO _ (QaE ..) (stO _ rfl (stO _ rfl (stO _ rfl (stO _ rfl (stO _ (QaE ..) (stO _ (QaE ..) (stO _ (QaE ..) (stO _ (QaE ..) (stO _ rfl (stO _ rfl (stO _ (QaE ..) (stO _ (QaE ..) (stO _ (QaE ..) (stO _ (QaE ..) (?_)))))))))))))))))))))))))))))))))))))))))))))
  rw [hw]
  cases hxy:sgq x y with
  |true=>exact stF (show (!(sgq x y))=false by rw [hxy];rfl) (ih.trans (by simp [QcC,hxy]))
  |false=>exact stT (show (!(sgq x y))=true by rw [hxy];rfl) (by simp [QcC,hxy])
theorem Qu1 (a b:Bk) (h1:a.ps.length≤1000000) (h2:a.segs.length≤1000000) (h3:a.svs.length≤1000000) (e1:a.ps.length=b.ps.length) (e2:a.segs.length=b.segs.length) (e3:a.svs.length=b.svs.length) (n:Nat) (hn:a.ps.length+a.segs.length+a.svs.length<n)  :∀(t u p q:List Pe),p++t=a.ps→q++u=b.ps→p.length=q.length→t.length=u.length→∀k,t.length<k→r35_Same_L1 lb n k a.loc a.pn (a.ps.map peE) a.grp a.bn (a.segs.map sgE) a.rn (a.svs.map svE) a.lim b.loc b.pn (b.ps.map peE) b.grp b.bn (b.segs.map sgE) b.rn (b.svs.map svE) b.lim  (p.length:Int)=some (.bool (QcC peq t u&&(QcC sgq a.segs b.segs&&QcC svq a.svs b.svs)))
 | [],u,p,q,hp,hq,hpq,htu,k,hk=>by
  obtain ⟨k,rfl⟩:∃j,k=j+1:=⟨k-1,by simp at hk;omega⟩
  have hu:u= []:=List.eq_nil_of_length_eq_zero (by simpa using htu.symm)
  subst hu
  have:p=a.ps:=by simpa using hp
  rw [QjD]
  refine stF (decF (by simp [this])) ?_
  show _=some (CV.bool ((QcC sgq a.segs b.segs&&QcC svq a.svs b.svs)))
  rw [Qq8]
  exact QuZ lb a b h1 h2 h3 e1 e2 e3 n hn _ a.segs b.segs [] [] rfl rfl rfl e2 n (by omega)
 |x::t, [],p,q,hp,hq,hpq,htu,k,hk=>by simp at htu
 |x::t,y::u,p,q,hp,hq,hpq,htu,k,hk=>by
  obtain ⟨k,rfl⟩:∃j,k=j+1:=⟨k-1,by simp at hk;omega⟩
  have hpl:p.length+(t.length+1)=a.ps.length:=by rw [←hp];simp
  have h1':atL (a.ps.map peE) (p.length:Int)=some (peE x):=Qa9 (by rw [List.getElem?_map,←hp];simp)
  have h2':atL (b.ps.map peE) (p.length:Int)=some (peE y):=by rw [hpq];exact Qa9 (by rw [List.getElem?_map,←hq];simp)
  have hw:IntKind.wrap .i64 ((p.length:Int)+1)=((p++ [x]).length:Int):=by rw [QaD (by omega) (by omega)];simp
  have ih:=Qu1 a b h1 h2 h3 e1 e2 e3 n hn  t u (p++ [x]) (q++ [y]) (by rw [←hp];simp) (by rw [←hq];simp) (by simp [hpq]) (by simpa using htu) k (by simp at hk;omega)
  rw [QjD]
  refine stT (decT (by simp;omega)) (stO _ h1' (stC rfl (stO _ rfl (stO _ rfl (stO _ rfl (stO _ h2' (stC rfl (stO _ rfl (stO _ rfl (stO _ rfl (stO _ rfl (stO _ rfl (stO _ rfl (stO _ rfl (stO _ rfl (stO _ rfl (?_)))))))))))))))))
  rw [hw]
  cases hxy:peq x y with
  |true=>exact stF (show (!(peq x y))=false by rw [hxy];rfl) (ih.trans (by simp [QcC,hxy]))
  |false=>exact stT (show (!(peq x y))=true by rw [hxy];rfl) (by simp [QcC,hxy])
theorem Qfs (a b:Bk) (h1:a.ps.length≤1000000) (h2:a.segs.length≤1000000) (h3:a.svs.length≤1000000):Ret lb Qaq [.agg (bkE a), .agg (bkE b)] (.bool (QnV a b)):=by
 refine .top rfl ((Evt.ge (a.ps.length+a.segs.length+a.svs.length+1)).mono fun n hn=> ?_)
 rw [show top lb n Qaq [.agg (bkE a), .agg (bkE b)]=_ from QuX lb n a.loc a.pn (a.ps.map peE) a.grp a.bn (a.segs.map sgE) a.rn (a.svs.map svE) a.lim b.loc b.pn (b.ps.map peE) b.grp b.bn (b.segs.map sgE) b.rn (b.svs.map svE) b.lim]
 unfold QnV
 cases a.loc==b.loc with
 |false=>exact stT rfl rfl
 |true=>
  refine stF rfl ?_
  by_cases hg:a.grp=b.grp
  ·refine stF (bneF hg) ?_
   rw [beqT hg]
   by_cases hm:a.lim=b.lim
   ·refine stF (bneF hm) ?_
    rw [beqT hm]
    by_cases e1:a.ps.length=b.ps.length
    ·refine stF (bneF (by simp [e1])) ?_
     by_cases e2:a.segs.length=b.segs.length
     ·refine stF (bneF (by simp [e2])) ?_
      by_cases e3:a.svs.length=b.svs.length
      ·refine stF (bneF (by simp [e3])) ?_
       exact (Qu1 lb a b h1 h2 h3 e1 e2 e3 n (by omega) a.ps b.ps [] [] rfl rfl rfl e1 n (by omega)).trans (by simp)
      ·refine stT (bneT (by simp;omega)) ?_
       rw [Qky svq _ _ e3];simp
     ·refine stT (bneT (by simp;omega)) ?_
      rw [Qky sgq _ _ e2];simp
    ·refine stT (bneT (by simp;omega)) ?_
     rw [Qky peq _ _ e1];simp
   ·rw [beqF hm]
    exact stT (bneT hm) rfl
  ·rw [beqF hg]
   exact stT (bneT hg) rfl
def QcP (s:Bs):Bool:= !decide ((s.length:Int)>100)
def peS (p:Pe):Bool:=QcP p.la&&(QcP p.fi&&QcP p.ty)
def sgS (s:Sg):Bool:=QcP s.car&&(QcP s.fr&&(QcP s.to&&QcP s.cls))
def svS (x:Sv):Bool:=QcP x.cd
def Qne (b:Bk):Bool:=decide (b.ps.length≤60)&&(decide (b.segs.length≤60)&&(decide (b.svs.length≤60)&&(decide (b.loc.length≤100)&&(b.ps.all peS&&(b.segs.all sgS&&b.svs.all svS)))))
theorem QgP {s:Bs} {r:Bool} {t:Option CV} (h:QcP s=true→t=some (.bool r)):(bif decide ((s.length:Int)>100) then some (.bool false) else t)=some (.bool (QcP s&&r)):=by
 cases hs:QcP s with
 |true=>
  have:decide ((s.length:Int)>100)=false:=by simpa [QcP] using hs
  rw [this]
  exact (h hs).trans rfl
 |false=>
  have:decide ((s.length:Int)>100)=true:=by simpa [QcP] using hs
  rw [this];rfl
theorem QtG (b:Bk) (h3:b.svs.length≤60) (i j:Int):∀(t p:List Sv),p++t=b.svs→∀n k,t.length<k→QgZ lb n k b.loc b.pn (b.ps.map peE) b.grp b.bn (b.segs.map sgE) b.rn (b.svs.map svE) b.lim i j (p.length:Int)=some (.bool (t.all svS))
 | [],p,h,n,k,hk=>by
  obtain ⟨k,rfl⟩:∃j,k=j+1:=⟨k-1,by simp at hk;omega⟩
  have hp:p=b.svs:=by simpa using h
  rw [QiR]
  refine stF (decF (by simp [hp])) ?_
  rw [QqJ];rfl
 |x::t,p,h,n,k,hk=>by
  obtain ⟨k,rfl⟩:∃j,k=j+1:=⟨k-1,by simp at hk;omega⟩
  have hpl:p.length+(t.length+1)=b.svs.length:=by rw [←h];simp
  have hat:atL (b.svs.map svE) (p.length:Int)=some (svE x):=Qa9 (by rw [List.getElem?_map,←h];simp)
  have hw:IntKind.wrap .i64 ((p.length:Int)+1)=((p++ [x]).length:Int):=by rw [QaD (by omega) (by omega)];simp
  have ih:=QtG b h3 i j t (p++ [x]) (by rw [←h];simp) n k (by simp at hk;omega)
  rw [QiR,hw]
  exact stT (decT (by simp;omega)) (stO _ hat (stC rfl (stO _ rfl (stO _ rfl (QgP fun _=>ih)))))
theorem Qtw (b:Bk) (h2:b.segs.length≤60) (h3:b.svs.length≤60) (n:Nat) (hn:100≤n) (i:Int):∀(t p:List Sg),p++t=b.segs→∀k,t.length<k→Qhf lb n k b.loc b.pn (b.ps.map peE) b.grp b.bn (b.segs.map sgE) b.rn (b.svs.map svE) b.lim i (p.length:Int)=some (.bool (t.all sgS&&b.svs.all svS))
 | [],p,h,k,hk=>by
  obtain ⟨k,rfl⟩:∃j,k=j+1:=⟨k-1,by simp at hk;omega⟩
  have hp:p=b.segs:=by simpa using h
  rw [Qi1]
  refine stF (decF (by simp [hp])) ?_
  rw [QqL]
  exact QtG lb b h3 i _ b.svs [] rfl n n (by omega)
 |x::t,p,h,k,hk=>by
  obtain ⟨k,rfl⟩:∃j,k=j+1:=⟨k-1,by simp at hk;omega⟩
  have hpl:p.length+(t.length+1)=b.segs.length:=by rw [←h];simp
  have hat:atL (b.segs.map sgE) (p.length:Int)=some (sgE x):=Qa9 (by rw [List.getElem?_map,←h];simp)
  have hw:IntKind.wrap .i64 ((p.length:Int)+1)=((p++ [x]).length:Int):=by rw [QaD (by omega) (by omega)];simp
  have ih:=Qtw b h2 h3 n hn i t (p++ [x]) (by rw [←h];simp) k (by simp at hk;omega)
  rw [Qi1,hw]
  have e:((x::t).all sgS&&b.svs.all svS)=(QcP x.car&&(QcP x.fr&&(QcP x.to&&(QcP x.cls&&(t.all sgS&&b.svs.all svS))))):=by simp [sgS,Bool.and_assoc]
  rw [e]
  exact stT (decT (by simp;omega)) (stO _ hat (stC rfl (stO _ rfl (stO _ rfl (stO _ rfl (stO _ rfl (stO _ rfl (stO _ rfl (stO _ rfl (stO _ rfl (QgP fun _=>(stO _ rfl (QgP fun _=>(stO _ rfl (QgP fun _=>(stO _ hat (stC rfl (stO _ rfl (stO _ rfl (QgP fun _=>(ih)))))))))))))))))))))
theorem Qs1 (b:Bk) (h1:b.ps.length≤60) (h2:b.segs.length≤60) (h3:b.svs.length≤60) (n:Nat) (hn:100≤n):∀(t p:List Pe),p++t=b.ps→∀k,t.length<k→QgX lb n k b.loc b.pn (b.ps.map peE) b.grp b.bn (b.segs.map sgE) b.rn (b.svs.map svE) b.lim (p.length:Int)=some (.bool (t.all peS&&(b.segs.all sgS&&b.svs.all svS)))
 | [],p,h,k,hk=>by
  obtain ⟨k,rfl⟩:∃j,k=j+1:=⟨k-1,by simp at hk;omega⟩
  have hp:p=b.ps:=by simpa using h
  rw [QiS]
  refine stF (decF (by simp [hp])) ?_
  rw [Qqm]
  exact Qtw lb b h2 h3 n hn _ b.segs [] rfl n (by omega)
 |x::t,p,h,k,hk=>by
  obtain ⟨k,rfl⟩:∃j,k=j+1:=⟨k-1,by simp at hk;omega⟩
  have hpl:p.length+(t.length+1)=b.ps.length:=by rw [←h];simp
  have hat:atL (b.ps.map peE) (p.length:Int)=some (peE x):=Qa9 (by rw [List.getElem?_map,←h];simp)
  have hw:IntKind.wrap .i64 ((p.length:Int)+1)=((p++ [x]).length:Int):=by rw [QaD (by omega) (by omega)];simp
  have ih:=Qs1 b h1 h2 h3 n hn t (p++ [x]) (by rw [←h];simp) k (by simp at hk;omega)
  rw [QiS,hw]
  have e:((x::t).all peS&&(b.segs.all sgS&&b.svs.all svS))=(QcP x.la&&(QcP x.fi&&(QcP x.ty&&(t.all peS&&(b.segs.all sgS&&b.svs.all svS))))):=by simp [peS,Bool.and_assoc]
  rw [e]
  exact stT (decT (by simp;omega)) (stO _ hat (stC rfl (stO _ rfl (stO _ rfl (QgP fun _=>(stO _ hat (stC rfl (stO _ rfl (stO _ rfl (QgP fun _=>(stO _ hat (stC rfl (stO _ rfl (stO _ rfl (QgP fun _=>(ih))))))))))))))))
theorem Qxe (b:Bk):Ret lb QaJ [.agg (bkE b)] (.bool (Qne b)):=by
 refine .top rfl ((Evt.ge 100).mono fun n hn=> ?_)
 rw [show top lb n QaJ [.agg (bkE b)]=_ from Qtj lb n b.loc b.pn (b.ps.map peE) b.grp b.bn (b.segs.map sgE) b.rn (b.svs.map svE) b.lim]
 unfold Qne
 by_cases h1:b.ps.length≤60
 ·refine stF (decF (by simp;omega)) ?_
  rw [decT h1]
  by_cases h2:b.segs.length≤60
  ·refine stF (decF (by simp;omega)) ?_
   rw [decT h2]
   by_cases h3:b.svs.length≤60
   ·refine stF (decF (by simp;omega)) ?_
    rw [decT h3]
    by_cases h4:b.loc.length≤100
    ·refine stF (decF (by omega)) ?_
     rw [decT h4]
     exact (Qs1 lb b h1 h2 h3 n hn b.ps [] rfl n (by omega)).trans (by simp)
    ·refine stT (decT (by omega)) ?_
     rw [decF h4];rfl
   ·refine stT (decT (by simp;omega)) ?_
    rw [decF h3];rfl
  ·refine stT (decT (by simp;omega)) ?_
   rw [decF h2];rfl
 ·refine stT (decT (by simp;omega)) ?_
  rw [decF h1];rfl
structure SmallOk (b:Bk):Prop where
 ps:b.ps.length≤60
 segs:b.segs.length≤60
 svs:b.svs.length≤60
 loc:b.loc.length≤100
 pe:∀p∈b.ps,p.la.length≤100∧p.fi.length≤100∧p.ty.length≤100
 sg:∀s∈b.segs,s.car.length≤100∧s.fr.length≤100∧s.to.length≤100∧s.cls.length≤100
 sv:∀x∈b.svs,x.cd.length≤100
theorem Qfl {s:Bs} (h:QcP s=true):s.length≤100:=by
 simp [QcP] at h;omega
theorem Qx8 {b:Bk} (h:Qne b=true):SmallOk b:=by
 simp only [Qne,Bool.and_eq_true,decide_eq_true_eq,List.all_eq_true] at h
 obtain ⟨h1,h2,h3,h4,h5,h6,h7⟩:=h
 refine ⟨h1,h2,h3,h4,fun p hp=> ?_,fun s hs=> ?_,fun x hx=>Qfl (h7 x hx)⟩
 ·have:=h5 p hp
  simp only [peS,Bool.and_eq_true] at this
  exact ⟨Qfl this.1,Qfl this.2.1,Qfl this.2.2⟩
 ·have:=h6 s hs
  simp only [sgS,Bool.and_eq_true] at this
  exact ⟨Qfl this.1,Qfl this.2.1,Qfl this.2.2.1,Qfl this.2.2.2⟩
end Go.Proofs
