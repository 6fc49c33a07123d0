/- Chapter 35: a short ascending list is sorted: nothing is written. Conditions: as each says. -/
import Derived.Test.YtigmcfhmpcajlaaGreatDoorBA
import Derived.Test.YtigmcfhmpcajlaaGreatDoorGf
import Derived.Test.YtigmcfhmpcajlaaGreatDoorGn
import Derived.Test.YtigmcfhmpcajlaaGreatDoorNh
import Derived.Test.YtigmcfhmpcajlaaGreatDoorRk
import Derived.Test.YtigmcfhmpcajlaaGreatDoorGE
import Derived.Test.YtigmcfhmpcajlaaGreatDoorBC
import Derived.Test.YtigmcfhmpcajlaaGreatDoorBD
set_option linter.unusedSimpArgs false
set_option linter.unusedVariables false
namespace Go.Proofs
open Go.Am
variable (lb:Nat)
theorem QwA:Evt fun n=>∀a:Int,C lb n Qe9 [.int .i64 a]=some (.bool false):=
 .from 1 fun n a=>by
  rw [QpD lb n _ _ rfl,Qo5]
  simp
theorem Qpk:Evt fun n=>∀a b:Int,C lb n Qbr [.int .i64 a, .int .i64 b]=some (.bool (decide (a<b))):=by
 obtain ⟨N,hN⟩:=QwA lb
 refine ⟨N+1,fun n hn a b=> ?_⟩
 obtain ⟨m,rfl⟩:∃m,n=m+1:=⟨n-1,by omega⟩
 rw [QpD lb m _ _ rfl,QpS]
 exact stO _ (hN m (by omega) a) (stO _ (QaP _) (stF rfl rfl))
def Asc (l:List Int):Prop:=∀(i:Nat) a b,l[i]?=some a→l[i+1]?=some b→a≤b
theorem QnK (bn:Bool) (l:List Int) (hl:l.length≤1000000) (hs:Asc l):∀(m i:Nat),i+m=l.length→1≤i→Evt fun n=>∀k,m<k→Qbx lb n k bn (l.map icv) 0 (l.length:Int) (i:Int)=some (.tup [])
 |0,i,h,h1=> .all fun n k hk=>by
  obtain ⟨k,rfl⟩:∃m,k=m+1:=⟨k-1,by omega⟩
  rw [QbN]
  exact stF (decF (by omega)) rfl
 |m+1,i,h,h1=>by
  refine ((Qpk lb).and (Evt.ge 1)).imp2 (QnK bn l hl hs m (i+1) (by omega) (by omega)) fun n hl2 hi k hk=> ?_
  obtain ⟨k,rfl⟩:∃m,k=m+1:=⟨k-1,by omega⟩
  obtain ⟨n',rfl⟩:∃m,n=m+1:=⟨n-1,by have:=hl2.2;omega⟩
  have hi:=hi k (by omega)
  obtain ⟨b,hb⟩:∃b,l[i]?=some b:=⟨_,List.getElem?_eq_getElem (by omega)⟩
  obtain ⟨a,ha⟩:∃a,l[i-1]?=some a:=⟨_,List.getElem?_eq_getElem (by omega)⟩
  have hab:=hs (i-1) a b ha (by rw [show i-1+1=i by omega];exact hb)
  have hw:IntKind.wrap .i64 ((i:Int)-1)=((i-1:Nat):Int):=by rw [QaD (by omega) (by omega)];omega
  have hw1:IntKind.wrap .i64 ((i:Int)+1)=((i+1:Nat):Int):=by rw [QaD (by omega) (by omega)];omega
  have atI:atL (l.map icv) (i:Int)=some (icv b):=Qa9 (by rw [List.getElem?_map,hb];rfl)
  have atP:atL (l.map icv) ((i-1:Nat):Int)=some (icv a):=Qa9 (by rw [List.getElem?_map,ha];rfl)
  rw [QbN]
  refine stT (decT (by omega)) ?_
  rw [QeN,hw]
  refine stT (decT (by omega)) (stO _ atI (stC rfl (stO _ rfl (stO _ atP (stC rfl (stO _ rfl (stO _ (hl2.1 b a) (stO _ (QaP _) (stF (decF (by omega)) ?_)))))))))
  rw [Qfh,hw1]
  exact hi
theorem QsF (bn:Bool) (l:List Int) (hl:l.length≤1000000) (hs:Asc l):Ret lb Qaj [.list bn (l.map icv), .int .i64 0, .int .i64 (l.length:Int)] (.tup []):=by
 rcases Nat.eq_zero_or_pos l.length with h0|h0
 ·refine .top rfl ((Evt.ge 1).mono fun n hn=> ?_)
  obtain ⟨n,rfl⟩:∃m,n=m+1:=⟨n-1,by omega⟩
  rw [Qdq,QbN,QaD (by omega) (by omega),h0]
  exact stF (decF (by omega)) rfl
 ·refine .top rfl ((Evt.diag (QnK lb bn l hl hs (l.length-1) 1 (by omega) (Nat.le_refl _))).mono fun n h=> ?_)
  rw [Qdq,QaD (by omega) (by omega)]
  exact h
set_option maxRecDepth 100000 in
theorem Quv (m:Nat) (hm:m≤255):∃r,Ret lb Qfa [.int .u64 (m:Int)] (.int .i64 r):=by
 have hw8:IntKind.wrap .u8 (m:Int)=(m:Int):=by
  unfold IntKind.wrap
  simp [IntKind.bits,IntKind.signed]
  omega
 have key:∃r,Qc6 lb 0 (m:Int) 0=some (.int .i64 r):=by
  rw [QbT,hw8]
  apply Exists.intro
  refine stF (decF (by omega)) (stO _ (QiA (List.getElem?_eq_getElem ?_)) rfl)
  exact Nat.lt_of_lt_of_le (show m<256 by omega) (Nat.le_of_eq (by kernel_rfl))
 obtain ⟨r,key⟩:=key
 have h:∃r,Ret lb Qbk [.int .u64 (m:Int)] (.int .i64 r):=by
  refine ⟨r, .top rfl (.all fun n=> ?_)⟩
  rw [QiC]
  refine stF (decF (by omega)) ?_
  rw [QgR]
  refine stF (decF (by omega)) ?_
  rw [←key,QbT,QbT]
 obtain ⟨r,h⟩:=h
 exact ⟨r, .top rfl (h.mono fun n h=>by rw [Qj6];exact stO _ h rfl)⟩
theorem QqH (bn:Bool) (l:List Int) (hl:l.length≤12) (hs:Asc l):Ret lb QcK [.list bn (l.map icv)] (.tup []):=by
 obtain ⟨r,hr⟩:=Quv lb l.length (by omega)
 have hp:Ret lb Qad [.list bn (l.map icv), .int .i64 0, .int .i64 (l.length:Int), .int .i64 r] (.tup []):=
  .top rfl (((QsF lb bn l (by omega) hs).and (Evt.ge 1)).mono fun n ⟨h,hn⟩=>by
   obtain ⟨n',rfl⟩:∃m,n=m+1:=⟨n-1,by omega⟩
   rw [Qeq,Qdx]
   refine stO _ (QaE ..) (stO _ (QaE ..) (stT (decT ?_) (stO _ h rfl)))
   rw [QaD (by omega) (by omega)];omega)
 refine .top rfl (Evt.imp2 hr hp fun n h1 h2=> ?_)
 rw [QiD]
 have hlen:(((l.map icv).length:Nat):Int)=(l.length:Int):=by simp
 have hw:IntKind.wrap .u64 (l.length:Int)=(l.length:Int):=by
  unfold IntKind.wrap
  simp [IntKind.bits,IntKind.signed]
  omega
 rw [hlen,hw]
 exact stO _ h1 (stO _ h2 rfl)
end Go.Proofs
set_option linter.unusedSimpArgs false
set_option linter.unusedVariables false
namespace Go.Proofs
open Go.Am
variable (lb:Nat)
theorem Qt6 {l:List Int} (hs:Asc l):∀(d i:Nat) (a b:Int),l[i]?=some a→l[i+d]?=some b→a≤b
 |0,i,a,b,ha,hb=>by
  rw [Nat.add_zero,ha] at hb
  simp only [Option.some.injEq] at hb;omega
 |d+1,i,a,b,ha,hb=>by
  have hlt:=(List.getElem?_eq_some_iff.1 hb).1
  obtain ⟨c,hc⟩:∃c,l[i+d]?=some c:=⟨_,List.getElem?_eq_getElem (by omega)⟩
  have h1:=Qt6 hs d i a c ha hc
  have h2:=hs (i+d) c b hc hb
  omega
theorem QpC (ve:Nat) (bn:Bool) (l:List Int) (hl:l.length≤1000000) (hs:Asc l) (n:Nat) (hless:∀a b:Int,C lb n Qbr [.int .i64 a, .int .i64 b]=some (.bool (decide (a<b)))):∀(m i:Nat),i+m=l.length→1≤i→∀k,m<k→Qa8 lb n k ve bn (l.map icv) 0 (l.length:Int) (i:Int)=some (.bool true)
 |0,i,h,h1,k,hk=>by
  obtain ⟨k,rfl⟩:∃j,k=j+1:=⟨k-1,by omega⟩
  rw [Qb5]
  refine stF (decF (by omega)) ?_
  rw [Qed]
  exact stT (beqT (by omega)) rfl
 |m+1,i,h,h1,k,hk=>by
  obtain ⟨k,rfl⟩:∃j,k=j+1:=⟨k-1,by omega⟩
  obtain ⟨b,hb⟩:∃b,l[i]?=some b:=⟨_,List.getElem?_eq_getElem (by omega)⟩
  obtain ⟨a,ha⟩:∃a,l[i-1]?=some a:=⟨_,List.getElem?_eq_getElem (by omega)⟩
  have hab:=hs (i-1) a b ha (by rw [show i-1+1=i by omega];exact hb)
  have hw:IntKind.wrap .i64 ((i:Int)-1)=((i-1:Nat):Int):=by rw [QaD (by omega) (by omega)];omega
  have hw1:IntKind.wrap .i64 ((i:Int)+1)=((i+1:Nat):Int):=by rw [QaD (by omega) (by omega)];omega
  have atI:atL (l.map icv) (i:Int)=some (icv b):=Qa9 (by rw [List.getElem?_map,hb];rfl)
  have atP:atL (l.map icv) ((i-1:Nat):Int)=some (icv a):=Qa9 (by rw [List.getElem?_map,ha];rfl)
  have ih:=QpC ve bn l hl hs n hless m (i+1) (by omega) (by omega) k (by omega)
  rw [Qb5,hw,hw1]
  exact stT (decT (by omega)) (stO _ atI (stC rfl (stO _ rfl (stO _ atP (stC rfl (stO _ rfl (stO _ (hless b a) (stO _ (QaP _) (stT (by rw [decF (by omega)];rfl) ih)))))))))
theorem Qum (bn:Bool) (l:List Int) (hl:l.length≤1000000) (h1:1≤l.length) (hs:Asc l):Ret lb Qab [.list bn (l.map icv), .int .i64 0, .int .i64 (l.length:Int)] (.bool true):=
 .top rfl (((Qpk lb).and (Evt.ge (l.length+1))).mono fun n ⟨hless,hn⟩=>by
  obtain ⟨m,rfl⟩:∃m,n=m+1:=⟨n-1,by omega⟩
  rw [Qer,QdW,QaD (by omega) (by omega)]
  exact QpC lb m bn l hl hs (m+1) hless (l.length-1) 1 (by omega) (Nat.le_refl _) (m+1) (by omega))
theorem QwY (bn:Bool) (l:List Int) (h0:13≤l.length) (h1:l.length≤49) (hs:Asc l):Ret lb Qan [.list bn (l.map icv), .int .i64 0, .int .i64 (l.length:Int)] (.tup [.int .i64 ((l.length/4*2:Nat):Int), .int .i64 1]):=
 .top rfl ((Qpk lb).mono fun n hless=>by
  have w0:IntKind.wrap .i64 ((l.length:Int)-0)=(l.length:Int):=by rw [QaD (by omega) (by omega)];omega
  have wq:IntKind.wrap .i64 (Int.tdiv (l.length:Int) 4)=((l.length/4:Nat):Int):=by
   rw [show Int.tdiv (l.length:Int) 4=((l.length/4:Nat):Int) from rfl,QaD (by omega) (by omega)]
  have e:∀c:Nat,c≤3→IntKind.wrap .i64 (0+IntKind.wrap .i64 (((l.length/4:Nat):Int)*(c:Int)))=((l.length/4*c:Nat):Int):=fun c hc=>by
   have hq:l.length/4≤49:=by omega
   have hqc:l.length/4*c≤49*3:=Nat.mul_le_mul hq hc
   have hz:((l.length/4:Nat):Int)*(c:Int)=((l.length/4*c:Nat):Int):=by rw [Int.natCast_mul]
   have hb:((l.length/4*c:Nat):Int)≤147:=by have:=hqc;omega
   have hn:(0:Int)≤((l.length/4*c:Nat):Int):=Int.natCast_nonneg _
   generalize ((l.length/4*c:Nat):Int)=q at hz hb hn
   have hw:IntKind.wrap .i64 q=q:=QaD (by omega) (by omega)
   rw [hz,hw,Int.zero_add,hw]
  have e1:=e 1 (by omega)
  have e2:=e 2 (by omega)
  have e3:=e 3 (by omega)
  obtain ⟨a,ha⟩:∃a,l[l.length/4*1]?=some a:=⟨_,List.getElem?_eq_getElem (by omega)⟩
  obtain ⟨b,hb⟩:∃b,l[l.length/4*2]?=some b:=⟨_,List.getElem?_eq_getElem (by omega)⟩
  obtain ⟨c,hc⟩:∃c,l[l.length/4*3]?=some c:=⟨_,List.getElem?_eq_getElem (by omega)⟩
  have hab:=Qt6 hs (l.length/4) (l.length/4*1) a b ha (by rw [show l.length/4*1+l.length/4=l.length/4*2 by omega];exact hb)
  have hbc:=Qt6 hs (l.length/4) (l.length/4*2) b c hb (by rw [show l.length/4*2+l.length/4=l.length/4*3 by omega];exact hc)
  have a1:atL (l.map icv) ((l.length/4*1:Nat):Int)=some (icv a):=Qa9 (by rw [List.getElem?_map,ha];rfl)
  have a2:atL (l.map icv) ((l.length/4*2:Nat):Int)=some (icv b):=Qa9 (by rw [List.getElem?_map,hb];rfl)
  have a3:atL (l.map icv) ((l.length/4*3:Nat):Int)=some (icv c):=Qa9 (by rw [List.getElem?_map,hc];rfl)
  rw [QgA,w0]
  refine stT (decT (by omega)) (stF (decF (by omega)) ?_)
  rw [wq]
  have f1:IntKind.wrap .i64 (0+IntKind.wrap .i64 (((l.length/4:Nat):Int)*1))=((l.length/4*1:Nat):Int):=e1
  have f2:IntKind.wrap .i64 (0+IntKind.wrap .i64 (((l.length/4:Nat):Int)*2))=((l.length/4*2:Nat):Int):=e2
  have f3:IntKind.wrap .i64 (0+IntKind.wrap .i64 (((l.length/4:Nat):Int)*3))=((l.length/4*3:Nat):Int):=e3
  rw [f1,f2,f3]
  refine stO _ a2 (stC rfl (stO _ rfl (stO _ a1 (stC rfl (stO _ rfl (stO _ (hless b a) (stO _ (QaP _) (stF (decF (by omega)) (stO _ a3 (stC rfl (stO _ rfl (stO _ a2 (stC rfl (stO _ rfl (stO _ (hless c b) (stO _ (QaP _) (stF (decF (by omega)) (stO _ a2 (stC rfl (stO _ rfl (stO _ a1 (stC rfl (stO _ rfl (stO _ (hless b a) (stO _ (QaP _) (stF (decF (by omega)) ?_))))))))))))))))))))))))))
  rw [QfJ,w0,wq,f2]
  exact stT rfl rfl)
set_option maxRecDepth 100000 in
theorem QuA (m:Nat) (h0:13≤m) (hm:m≤49):∃r:Int,r≠0∧Ret lb Qfa [.int .u64 (m:Int)] (.int .i64 r):=by
 have hw8:IntKind.wrap .u8 (m:Int)=(m:Int):=by
  unfold IntKind.wrap
  simp [IntKind.bits,IntKind.signed]
  omega
 have key:∃r:Int,r≠0∧Qc6 lb 0 (m:Int) 0=some (.int .i64 r):=by
  have hc:m=13∨m=14∨m=15∨m=16∨m=17∨m=18∨m=19∨m=20∨m=21∨m=22∨m=23∨m=24∨m=25∨m=26∨m=27∨m=28∨m=29∨m=30∨m=31∨m=32∨m=33∨m=34∨m=35∨m=36∨m=37∨m=38∨m=39∨m=40∨m=41∨m=42∨m=43∨m=44∨m=45∨m=46∨m=47∨m=48∨m=49:=by omega
  rw [QbT,hw8]
  by_cases h15:m≤15
  ·refine ⟨4,by decide, ?_⟩
   have hc:m=13∨m=14∨m=15:=by omega
   rcases hc with rfl|rfl|rfl<;>exact stF (by decide) (stO _ (by rfl) rfl)
  ·by_cases h31:m≤31
   ·refine ⟨5,by decide, ?_⟩
    have hc:m=16∨m=17∨m=18∨m=19∨m=20∨m=21∨m=22∨m=23∨m=24∨m=25∨m=26∨m=27∨m=28∨m=29∨m=30∨m=31:=by omega
    rcases hc with rfl|rfl|rfl|rfl|rfl|rfl|rfl|rfl|rfl|rfl|rfl|rfl|rfl|rfl|rfl|rfl<;>exact stF (by decide) (stO _ (by rfl) rfl)
   ·refine ⟨6,by decide, ?_⟩
    have hc:m=32∨m=33∨m=34∨m=35∨m=36∨m=37∨m=38∨m=39∨m=40∨m=41∨m=42∨m=43∨m=44∨m=45∨m=46∨m=47∨m=48∨m=49:=by omega
    rcases hc with rfl|rfl|rfl|rfl|rfl|rfl|rfl|rfl|rfl|rfl|rfl|rfl|rfl|rfl|rfl|rfl|rfl|rfl<;>exact stF (by decide) (stO _ (by rfl) rfl)
 obtain ⟨r,hr,key⟩:=key
 have h:Ret lb Qbk [.int .u64 (m:Int)] (.int .i64 r):=by
  refine .top rfl (.all fun n=> ?_)
  rw [QiC]
  refine stF (decF (by omega)) ?_
  rw [QgR]
  refine stF (decF (by omega)) ?_
  rw [←key,QbT,QbT]
 exact ⟨r,hr, .top rfl (h.mono fun n h=>by rw [Qj6];exact stO _ h rfl)⟩
theorem Qo0 (bn:Bool) (l:List Int) (h0:13≤l.length) (hl:l.length≤49) (hs:Asc l):Ret lb QcK [.list bn (l.map icv)] (.tup []):=by
 obtain ⟨r,hr0,hr⟩:=QuA lb l.length h0 hl
 have hp:Ret lb Qad [.list bn (l.map icv), .int .i64 0, .int .i64 (l.length:Int), .int .i64 r] (.tup []):=
  .top rfl (Evt.imp2 (Evt.imp2 (QwY lb bn l h0 hl hs) (Qum lb bn l (by omega) (by omega) hs) fun n a b=>And.intro a b) (Evt.ge 1) fun n ⟨h1,h2⟩ hn=>by
   obtain ⟨m,hm⟩:∃m,n=m+1:=⟨n-1,by omega⟩
   have key:∀k',slices_pdqsortOrdered_int_L1 lb n (k'+1) bn (l.map icv) (.int .i64 0) (.int .i64 (l.length:Int)) r true (.bool true)=some (.tup []):=fun k'=>by
    rw [Qdx]
    refine stO _ (QaE ..) (stO _ (QaE ..) (stF (decF ?_) (stF (beqF hr0) (stF rfl ?_))))
    ·rw [QaD (by omega) (by omega)];omega
    ·rw [QgT]
     refine stO _ h1 (stO _ rfl (stO _ rfl (stO _ rfl (stO _ rfl (stO _ (QaE ..) (stF rfl ?_))))))
     rw [QgS]
     exact stT rfl (stO _ rfl (stT rfl (stO _ (QaE ..) (stT rfl (stO _ h2 (stO _ rfl (stT rfl rfl)))))))
   rw [Qeq]
   have:=key m
   rw [←hm] at this
   exact this)
 refine .top rfl (Evt.imp2 hr hp fun n h1 h2=> ?_)
 rw [QiD]
 have hlen:(((l.map icv).length:Nat):Int)=(l.length:Int):=by simp
 have hw:IntKind.wrap .u64 (l.length:Int)=(l.length:Int):=by
  unfold IntKind.wrap
  simp [IntKind.bits,IntKind.signed]
  omega
 rw [hlen,hw]
 exact stO _ h1 (stO _ h2 rfl)
theorem QqF (bn:Bool) (l:List Int) (hl:l.length≤49) (hs:Asc l):Ret lb QcK [.list bn (l.map icv)] (.tup []):=by
 by_cases h:l.length≤12
 ·exact QqH lb bn l h hs
 ·exact Qo0 lb bn l (by omega) hl hs
end Go.Proofs
set_option linter.unusedSimpArgs false
set_option linter.unusedVariables false
namespace Go.Proofs
open Go.Am
variable (lb:Nat)
def Qki (e:Int):Int:=bif e==6 then 5 else bif e==8 then 7 else 0
def QaB (s e:Int):Int:=
 bif s==0 then (bif e==1 then 1 else bif e==2 then 2 else 0) else
 bif s==3 then (bif e==7 then 1 else bif e==5 then 4 else Qki e) else
 bif s==4 then (bif e==7 then 1 else bif e==5 then 4 else Qki e) else
 bif s==1 then (bif e==5 then 4 else Qki e) else
 bif s==2 then (bif e==3 then 3 else bif e==4 then 6 else Qki e) else
 bif s==5 then (bif e==1 then 1 else bif e==8 then 7 else 0) else
 bif s==6 then (bif e==8 then 7 else 0) else 0
def QeG (s e:Int):CV:=bif QaB s e==0 then .tup [.int .i64 0, .int .i64 10] else .tup [.int .i64 (QaB s e), .int .i64 0]
theorem QuO (e:Int):Ret lb QcV [.int .i64 e] (.int .i64 (Qki e)):=
 .top rfl (.all fun n=>by
  rw [Qol];unfold Qki
  cases e==6 with
  |true=>rfl
  |false=>cases e==8<;>rfl)
theorem QwU (s e:Int):Ret lb QhI [.int .i64 s, .int .i64 e] (.int .i64 (QaB s e)):=
 .top rfl ((QuO lb e).mono fun n h=>by
  rw [Qp7,h];unfold QaB
  cases s==0 with
  |true=>cases e==1 with
   |true=>rfl
   |false=>cases e==2<;>rfl
  |false=>cases s==3 with
   |true=>cases e==7 with
    |true=>rfl
    |false=>cases e==5<;>rfl
   |false=>cases s==4 with
    |true=>cases e==7 with
     |true=>rfl
     |false=>cases e==5<;>rfl
    |false=>cases s==1 with
     |true=>cases e==5<;>rfl
     |false=>cases s==2 with
      |true=>cases e==3 with
       |true=>rfl
       |false=>cases e==4<;>rfl
      |false=>cases s==5 with
       |true=>cases e==1 with
        |true=>rfl
        |false=>cases e==8<;>rfl
       |false=>cases s==6 with
        |true=>cases e==8<;>rfl
        |false=>rfl)
theorem Qpn (s e:Int):Ret lb QeI [.int .i64 s, .int .i64 e] (QeG s e):=
 .top rfl ((QwU lb s e).mono fun n h=>by
  rw [Qra]
  refine stO _ h (stO _ (QaE ..) ?_)
  unfold QeG
  cases QaB s e==0<;>rfl)
end Go.Proofs
set_option linter.unusedSimpArgs false
set_option linter.unusedVariables false
namespace Go.Proofs
open Go.Am
variable (lb:Nat)
def QcO (s:Sg) (n:Int):Sg:={s with st:=n}
def chgF (e:Int):List Int→List Sg→Option (List Sg)
 | [],l=>some l
 |i::r,l=>match l[i.toNat]? with
  |some s=>bif QaB s.st e==0 then none else chgF e r (l.set i.toNat (QcO s (QaB s.st e)))
  |none=>none
def noB:CV:= .agg [.str [], .list true [], .int .i64 0, .list true [], .list true [], .int .i64 0]
def chgV (loc:Bs) (pn:Bool) (ps:List (List CV)) (g:Int) (rn:Bool) (rs:List (List CV)) (lim:Int) (all:List Int) (b:Bool):Option (List Sg)→CV
 |some l=> .tup [.agg [.str loc, .list pn ps, .int .i64 g, .list false (l.map sgE), .list rn rs, .int .i64 lim], .list b (all.map icv), .int .i64 0]
 |none=> .tup [noB, .list true [], .int .i64 18]
theorem Qs0 {α:Type}:∀(l:List α) (i:Nat) (x:α),setN l i x=l.set i x
 | [],_,_=>rfl
 |_::_,0,_=>rfl
 |a::l,i+1,x=>by simp only [setN,List.set_cons_succ,Qs0 l i x]
theorem Qk5 (l:List Sg) (i:Nat) (s:Sg) (n:Int):setN (l.map sgE) (0+i) (QbI (sgE s) 8 [.int .i64 n])=(l.set i (QcO s n)).map sgE:=by
 rw [Qs0,Nat.zero_add,List.map_set]
 rfl
end Go.Proofs
set_option linter.unusedSimpArgs false
set_option linter.unusedVariables false
namespace Go.Proofs
open Go.Am
variable (lb:Nat)
theorem Qx5 {g:List Int} {k:Int} (h:Asc g) (hk:∀x∈g,x≤k):Asc (g++ [k]):=fun i a b ha hb=>by
 by_cases h1:i+1<g.length
 ·rw [List.getElem?_append_left (by omega)] at ha
  rw [List.getElem?_append_left h1] at hb
  exact h i a b ha hb
 ·have hi:i+1<(g++ [k]).length:=(List.getElem?_eq_some_iff.1 hb).1
  simp at hi
  have e:i+1=g.length:=by omega
  rw [List.getElem?_append_left (by omega)] at ha
  rw [List.getElem?_append_right (by omega),e] at hb
  simp at hb
  subst hb
  exact hk a (List.mem_of_getElem? ha)
theorem Qu3 (k:Int):Asc [k]:=fun i a b ha hb=>by simp at hb
theorem QpB (l:List Int):∀k,k≤l.length→∀g∈(Qa6 (l.take k)).2.2,Asc g
 |0,_,g,hg=>by simp [Qa6] at hg
 |k+1,h,g,hg=>by
  obtain ⟨x,hx⟩:∃x,l[k]?=some x:=⟨_,List.getElem?_eq_getElem (by omega)⟩
  have ih:=QpB l k (by omega)
  have im:=Qdv l k (by omega)
  rw [QcG hx] at hg
  simp only [stepG] at hg
  rw [Qd7 l k (by omega)] at hg
  split at hg
  ·unfold Qjl at hg
   rcases List.mem_append.1 hg with hg|hg
   ·exact ih g (List.dropLast_subset _ hg)
   ·simp only [List.mem_singleton] at hg
    subst hg
    cases hq:(Qa6 (l.take k)).2.2.getLast? with
    |none=>exact Qu3 _
    |some g0=>
     exact Qx5 (ih g0 (List.mem_of_getLast? hq)) fun y hy=>by have:=im g0 (List.mem_of_getLast? hq) y hy;omega
  ·rcases List.mem_append.1 hg with hg|hg
   ·exact ih g hg
   ·simp only [List.mem_singleton] at hg;subst hg;exact Qu3 _
def allF (l:List Sg) (x e:Int):List Int:=bif e !=5&&(e !=6&&e !=7) then (if marE (mars l)=0 then (match (QaO (mars l)).find? (·.contains x) with
 |some g=>g
 |none=> [x]) else [x]) else [x]
def QeT (loc:Bs) (pn:Bool) (ps:List (List CV)) (g:Int) (l:List Sg) (rn:Bool) (rs:List (List CV)) (lim x e:Int):CV:=
 if x<0∨x≥(l.length:Int) then .tup [noB, .list true [], .int .i64 7] else
 match l[x.toNat]? with
 |some s=>if QaB s.st e=0 then .tup [noB, .list true [], .int .i64 10] else chgV loc pn ps g rn rs lim (allF l x e) false (chgF e (allF l x e) l)
 |none=>noB
theorem Qwj (g:List Int) (h:g.length≤1000000):QjX (.list false (g.map icv))=true:=by
 have h1:Qdr (g.map icv)=some g:=by
  clear h
  induction g with
  |nil=>rfl
  |cons x g ih=>simp [icv,Qdr] at ih⊢;exact ih
 simp [QjX,h1];omega
end Go.Proofs
set_option linter.unusedSimpArgs false
set_option linter.unusedVariables false
namespace Go.Proofs
open Go.Am
theorem Qvi (e:Int):∀(all:List Int) (l l':List Sg),all.Pairwise (· < ·)→(∀i∈all,0≤i)→chgF e all l=some l'→l'.length=l.length∧
  (∀k:Nat,(k:Int)∉all→l'[k]?=l[k]?)∧(∀k:Nat,(k:Int)∈all→∃s,l[k]?=some s∧QaB s.st e≠0∧l'[k]?=some (QcO s (QaB s.st e)))
 | [],l,l',_,_,h=>by
  simp only [chgF,Option.some.injEq] at h
  subst h
  exact ⟨rfl,fun _ _=>rfl,fun _ hk=>by simp at hk⟩
 |i::r,l,l',hp,h0,h=>by
  obtain ⟨hp1,hp2⟩:=List.pairwise_cons.1 hp
  have hi:=h0 i (by simp)
  rw [show chgF e (i::r) l=(match l[i.toNat]? with
   |some s=>bif QaB s.st e==0 then none else chgF e r (l.set i.toNat (QcO s (QaB s.st e)))
   |none=>none) from rfl] at h
  cases hs:l[i.toNat]? with
  |none=>rw [hs] at h;simp at h
  |some s=>
   rw [hs] at h
   simp only at h
   cases ha:QaB s.st e==0 with
   |true=>rw [ha] at h;simp at h
   |false=>
    rw [ha] at h
    obtain ⟨q1,q2,q3⟩:=Qvi e r _ l' hp2 (fun j hj=>h0 j (by simp [hj])) h
    have hlt:i.toNat<l.length:=(List.getElem?_eq_some_iff.1 hs).1
    refine ⟨by simpa using q1,fun k hk=> ?_,fun k hk=> ?_⟩
    ·simp only [List.mem_cons,not_or] at hk
     rw [q2 k hk.2,List.getElem?_set]
     have:i.toNat≠k:=by omega
     simp [this]
    ·rcases List.mem_cons.1 hk with hk|hk
     ·subst hk
      have hn:((k:Nat):Int)∉r:=fun hr=>by have:=hp1 _ hr;omega
      rw [Int.toNat_natCast] at hs hlt
      refine ⟨s,hs,by simpa using ha, ?_⟩
      rw [q2 k hn,Int.toNat_natCast,List.getElem?_set]
      simp [hlt]
     ·obtain ⟨t,ht,h1,h2⟩:=q3 k hk
      have:=hp1 _ hk
      have hne:i.toNat≠k:=by omega
      rw [List.getElem?_set] at ht
      simp [hne] at ht
      exact ⟨t,ht,h1,h2⟩
theorem QvT {l:List Sg} {x e:Int} (hm:marE (mars l)=0) (h0:0≤x) (h1:x<(l.length:Int)) (h5:e≠5) (h6:e≠6) (h7:e≠7):∃g∈QaO (mars l),x∈g∧allF l x e=g:=by
 obtain ⟨g,hg⟩:=QlF (l:=mars l) h0 (by simpa [mars] using h1)
 refine ⟨g,List.mem_of_find?_eq_some hg,by simpa using List.find?_some hg, ?_⟩
 unfold allF
 rw [show (e !=5&&(e !=6&&e !=7))=true by simp [h5,h6,h7],if_pos hm,hg]
 rfl
end Go.Proofs
