/- What the functions of package text and of its reference answer: quoted texts. Conditions: as each says. -/
import Derived.Test.YtigmcfhmpcajlaaGreatDoorG1
import Derived.Test.YtigmcfhmpcajlaaGreatDoorRk
import Derived.Laws.RangeAny
import Derived.Laws.RangeString
import Derived.Lib.SplitLaws
set_option linter.unusedSimpArgs false
namespace Go.Proofs
open Go.Am
variable (lb:Nat)
end Go.Proofs
set_option linter.unusedSimpArgs false
namespace Go.Proofs
open Go.Am
variable (lb:Nat)
def isUp (c:UInt8):Bool:=decide (65≤c.toNat)&&decide (c.toNat≤90)
theorem QnQ {a:Int} {x y:Int} {p:Bool} (hp:p=(decide (x≤a)&&decide (a≤y))):(bif decide (a≥x) then some (CV.bool (decide (a≤y))) else some (CV.bool false))=some (CV.bool p):=by
 subst hp
 by_cases h:x≤a
 ·simp [h]
 ·simp [h]
theorem Qgq (c:UInt8):Ret lb QbA [.int .u8 (c.toNat:Int)] (.bool (isUp c)):=
 .top rfl (.all fun n=>by rw [Qqq,QnQ (p:=isUp c) (by revert c;exact Qj8 (by decide+kernel))])
theorem QdY (c:UInt8):Ret lb Qeb [.int .u8 (c.toNat:Int)] (.bool (isUp c)):=
 .top rfl (.all fun n=>by rw [Qui,QnQ (p:=isUp c) (by revert c;exact Qj8 (by decide+kernel))])
theorem Qls (c:UInt8):Ret lb QcD [.int .u8 (c.toNat:Int)] (.bool (isDg c)):=
 .top rfl (.all fun n=>by rw [Qso,QnQ (p:=isDg c) (by revert c;exact Qj8 (by decide+kernel))])
theorem QsA (c:UInt8):Ret lb QkO [.int .u8 (c.toNat:Int)] (.bool (isDg c)):=
 .top rfl (.all fun n=>by rw [QtZ,QnQ (p:=isDg c) (by revert c;exact Qj8 (by decide+kernel))])
theorem QpH (c:UInt8):Ret lb QcL [.int .u8 (c.toNat:Int)] (.bool (isUp c||isDg c)):=by
 refine .top rfl (.eq (fun n=>by rw [Qrz]) ?_)
 refine .call (Qgq lb c) ?_
 simp only [Qa1,QaP]
 cases isUp c
 ·simp only [cond_false,Bool.false_or]
  refine .call (Qls lb c) .done
 ·exact .done
theorem Qpp (c:UInt8):Ret lb Qcp [.int .u8 (c.toNat:Int)] (.bool (isPl c)):=by
 refine .top rfl (.all fun n=> ?_)
 rw [Qqg]
 revert c
 refine Qj8 ?_
 have:∀k,k<256→(bif decide (((UInt8.ofNat k).toNat:Int)>32) then bif decide (((UInt8.ofNat k).toNat:Int)≤126) then ((((UInt8.ofNat k).toNat:Int) !=34)) else false else false)=isPl (UInt8.ofNat k):=by decide+kernel
 intro k hk
 rw [←this k hk]
 cases decide (((UInt8.ofNat k).toNat:Int)>32)
 ·rfl
 ·cases decide (((UInt8.ofNat k).toNat:Int)≤126)<;>rfl
theorem Ql6 (s:Bs) (hs:s.length≤281474976710656):Ret lb Qao [.str s, .fn QcD] (.bool (s.all fun c=>isDg c)):=by
 refine .top rfl (.eq (fun n=>by rw [QjU]) ?_)
 refine Evt.diag (m:=s.length) (Qme hs (P:=fun p t n k=>QcE lb n k s (p.length:Int)=some (.bool (t.all fun c=>isDg c))) ?_ ?_ s [] rfl)
 ·refine .all fun n k=> ?_
  rw [Qee,decF (by omega),cond_false,Qiv]
  rfl
 ·intro p c t hp hlt hat hw hev
  refine hev.imp2 (Qls lb c) fun n hn hc k hk=> ?_
  rw [Qee]
  simp only [hlt,decide_true,cond_true,hat,Qa1,hc,QaP,hw,List.all_cons]
  cases (isDg c)
  ·rfl
  ·simpa using hn k hk
theorem Qf5 (s:Bs) (hs:s.length≤281474976710656):Ret lb Qao [.str s, .fn QbA] (.bool (s.all fun c=>isUp c)):=by
 refine .top rfl (.eq (fun n=>by rw [QiL]) ?_)
 refine Evt.diag (m:=s.length) (Qme hs (P:=fun p t n k=>Qci lb n k s (p.length:Int)=some (.bool (t.all fun c=>isUp c))) ?_ ?_ s [] rfl)
 ·refine .all fun n k=> ?_
  rw [QdV,decF (by omega),cond_false,Qht]
  rfl
 ·intro p c t hp hlt hat hw hev
  refine hev.imp2 (Qgq lb c) fun n hn hc k hk=> ?_
  rw [QdV]
  simp only [hlt,decide_true,cond_true,hat,Qa1,hc,QaP,hw,List.all_cons]
  cases (isUp c)
  ·rfl
  ·simpa using hn k hk
theorem Qly (s:Bs) (hs:s.length≤281474976710656):Ret lb Qao [.str s, .fn QcL] (.bool (s.all fun c=>isUp c||isDg c)):=by
 refine .top rfl (.eq (fun n=>by rw [Qi4]) ?_)
 refine Evt.diag (m:=s.length) (Qme hs (P:=fun p t n k=>Qcv lb n k s (p.length:Int)=some (.bool (t.all fun c=>isUp c||isDg c))) ?_ ?_ s [] rfl)
 ·refine .all fun n k=> ?_
  rw [Qd3,decF (by omega),cond_false,QhC]
  rfl
 ·intro p c t hp hlt hat hw hev
  refine hev.imp2 (QpH lb c) fun n hn hc k hk=> ?_
  rw [Qd3]
  simp only [hlt,decide_true,cond_true,hat,Qa1,hc,QaP,hw,List.all_cons]
  cases (isUp c||isDg c)
  ·rfl
  ·simpa using hn k hk
theorem QkL (s:Bs) (hs:s.length≤281474976710656):Ret lb Qao [.str s, .fn Qcp] (.bool (s.all fun c=>isPl c)):=by
 refine .top rfl (.eq (fun n=>by rw [QiJ]) ?_)
 refine Evt.diag (m:=s.length) (Qme hs (P:=fun p t n k=>Qck lb n k s (p.length:Int)=some (.bool (t.all fun c=>isPl c))) ?_ ?_ s [] rfl)
 ·refine .all fun n k=> ?_
  rw [QdU,decF (by omega),cond_false,Qhs]
  rfl
 ·intro p c t hp hlt hat hw hev
  refine hev.imp2 (Qpp lb c) fun n hn hc k hk=> ?_
  rw [QdU]
  simp only [hlt,decide_true,cond_true,hat,Qa1,hc,QaP,hw,List.all_cons]
  cases (isPl c)
  ·rfl
  ·simpa using hn k hk
theorem Qdz (s:Bs) (hs:s.length≤281474976710656):Ret lb Qg7 [.str s] (.bool (QjF s)):=by
 refine .top rfl (.eq (fun n=>by rw [Qsr]) ?_)
 unfold QjF
 cases s with
 |nil=>exact .done
 |cons c t=>
  simp only [show (c::t== [])=false from rfl,Bool.not_false,cond_true,List.isEmpty_cons,Bool.true_and]
  exact .call (QkL lb (c::t) hs) .done
theorem Qks (s:Bs) (m:Int) (hs:s.length≤281474976710656):Ret lb Qbq [.str s, .int .i64 m] (.bool (s.all isUp&&((s.length:Int)==m))):=by
 refine .top rfl (.eq (fun n=>by rw [QrD]) ?_)
 refine Evt.diag (m:=s.length) (Qme hs (P:=fun p t n k=>QfS lb n k s m (p.length:Int)=some (.bool (t.all isUp&&((s.length:Int)==m)))) ?_ ?_ s [] rfl)
 ·refine .all fun n k=> ?_
  rw [QhB,decF (by omega),cond_false,Qn8]
  rfl
 ·intro p c t hp hlt hat hw hev
  refine hev.imp2 (QdY lb c) fun n hn hc k hk=> ?_
  rw [QhB]
  simp only [hlt,decide_true,cond_true,hat,Qa1,hc,QaP,hw,List.all_cons]
  cases isUp c
  ·rfl
  ·simpa using hn k hk
def Qdm (s:Bs):Bool:=decide (s.length=3)&&s.all isUp
def Qdn (s:Bs):Bool:=decide (s.length=1)&&s.all isUp
theorem Qjy (s:Bs) (hs:s.length≤281474976710656):Ret lb QfQ [.str s] (.bool (Qdm s)):=by
 refine .top rfl (.eq (fun n=>by rw [Qqd]) ?_)
 unfold Qdm
 by_cases h:s.length=3
 ·simp only [beqT (show (s.length:Int)=3 by omega),cond_true,h,decide_true,Bool.true_and]
  exact .call (Qf5 lb s hs) .done
 ·simp only [beqF (show (s.length:Int)≠3 by omega),cond_false,h,decide_false,Bool.false_and]
  exact .of trivial
theorem Qrj (s:Bs):Ret lb QjP [.str s] (.bool (Qdn s)):=by
 refine .top rfl (.eq (fun n=>by rw [Qsp]) ?_)
 unfold Qdn
 match s with
 | [c]=>
  simp only [beqT (show ((([c]:Bs).length:Int))=1 from rfl),cond_true,show atS [c] 0=some c from rfl,Qa1]
  refine .call (Qgq lb c) ?_
  exact .of (by simp)
 | []=>exact .done
 |c::d::t=>
  simp only [beqF (show (((c::d::t:Bs).length:Int))≠1 by simp only [List.length_cons];omega),cond_false]
  exact .of (by simp)
theorem Qku (s:Bs) (hs:s.length≤281474976710656):Ret lb Qgi [.str s] (.bool (Qdm s)):=by
 refine .top rfl (.eq (fun n=>by rw [Qq4]) ?_)
 refine .call (Qks lb s 3 hs) ?_
 refine .of ?_
 unfold Qdm
 rw [Bool.and_comm,show decide (s.length=3)=((s.length:Int)==3) by
  by_cases h:s.length=3
  ·rw [beqT (by omega),decT h]
  ·rw [beqF (by omega),decF h]]
theorem QsI (s:Bs) (hs:s.length≤281474976710656):Ret lb QkY [.str s] (.bool (Qdn s)):=by
 refine .top rfl (.eq (fun n=>by rw [Qs3]) ?_)
 refine .call (Qks lb s 1 hs) ?_
 refine .of ?_
 unfold Qdn
 rw [Bool.and_comm,show decide (s.length=1)=((s.length:Int)==1) by
  by_cases h:s.length=1
  ·rw [beqT (by omega),decT h]
  ·rw [beqF (by omega),decF h]]
def isCd (c:UInt8):Bool:=isUp c||isDg c
def Qb9 (s:Bs) (a b:Int):Bool:=decide ((s.length:Int)≥a)&&(decide ((s.length:Int)≤b)&&s.all isCd)
theorem Qgd (s:Bs) (a b:Int) (hs:s.length≤281474976710656):Ret lb Qe0 [.str s, .int .i64 a, .int .i64 b] (.bool (Qb9 s a b)):=by
 refine .top rfl (.eq (fun n=>by rw [Qs9]) ?_)
 unfold Qb9
 cases decide ((s.length:Int)≥a)
 ·exact .done
 cases decide ((s.length:Int)≤b)
 ·exact .done
 exact .call (Qly lb s hs) .done
theorem Qg1 (s:Bs) (a b:Int) (hs:s.length≤281474976710656):Ret lb QbK [.str s, .int .i64 a, .int .i64 b] (.bool (Qb9 s a b)):=by
 refine .top rfl (.eq (fun n=>by rw [Quw]) ?_)
 unfold Qb9
 refine Evt.diag (m:=s.length) (Qme hs (P:=fun p t n k=>r01_Code_L1 lb n k s a b (p.length:Int)=some (.bool (decide ((s.length:Int)≥a)&&(decide ((s.length:Int)≤b)&&t.all isCd)))) ?_ ?_ s [] rfl)
 ·refine .all fun n k=> ?_
  rw [QjM,decF (by omega),cond_false,Qrp]
  cases decide ((s.length:Int)≥a)<;>simp
 ·intro p c t hp hlt hat hw hev
  refine (hev.and (QsA lb c)).imp2 (QdY lb c) fun n ⟨hn,hd⟩ hc k hk=> ?_
  have hn:=hn k hk
  rw [QjM]
  simp only [hlt,decide_true,cond_true,hat,Qa1,hc,hd,QaP,hw,List.all_cons,isCd] at hn⊢
  cases isUp c
  ·cases isDg c
   ·simp
   ·simpa using hn
  ·simpa using hn
def Qgy (s:Bs):Bool:=Qb9 s 2 2&& !s.all isDg
theorem Qpw (s:Bs) (hs:s.length≤281474976710656):Ret lb QhO [.str s] (.bool (Qgy s)):=by
 refine .top rfl (.eq (fun n=>by rw [QpY]) ?_)
 refine .call (Qgd lb s 2 2 hs) ?_
 simp only [Qa1,QaP]
 unfold Qgy
 cases Qb9 s 2 2
 ·exact .done
 ·simp only [cond_true,Bool.true_and]
  exact .call (Ql6 lb s hs) .done
theorem Qyv (c:UInt8) (h:isCd c=true):isDg c= !isUp c:=by
 revert h;revert c;refine Qj8 ?_;decide+kernel
theorem Qqv (s:Bs) (hs:s.length≤281474976710656):Ret lb QiF [.str s] (.bool (Qgy s)):=by
 refine .top rfl (.eq (fun n=>by rw [Qrr]) ?_)
 refine .call (Qg1 lb s 2 2 hs) ?_
 simp only [Qa1,QaP]
 unfold Qgy
 cases h:Qb9 s 2 2
 ·exact .done
 ·simp only [cond_true,Bool.true_and]
  unfold Qb9 at h
  simp only [Bool.and_eq_true,decide_eq_true_eq] at h
  obtain ⟨h1,h2,h3⟩:=h
  match s,h1,h2,h3 with
  | [x,y],_,_,h3=>
   simp only [List.all_cons,List.all_nil,Bool.and_true,Bool.and_eq_true] at h3
   simp only [show atS [x,y] 0=some x from rfl,show atS [x,y] 1=some y from rfl,Qa1,List.all_cons,List.all_nil,Bool.and_true,Qyv x h3.1,Qyv y h3.2]
   refine .call (QdY lb x) ?_
   simp only [Qa1,QaP]
   cases isUp x
   ·simp only [cond_false]
    refine .call (QdY lb y) ?_
    exact .of (by simp)
   ·exact .done
  | [],h1,h2,_=>simp at h1
  | [x],h1,h2,_=>simp at h1
  |x::y::z::r,h1,h2,_=>simp at h2;omega
end Go.Proofs
set_option linter.unusedSimpArgs false
namespace Go.Proofs
open Go.Am
variable (lb:Nat)
def hxV (c:UInt8):Int:=match hexV c with
 |some n=>n
 |none=>-1
theorem QwW (c:UInt8):Lib.indexByte [48,49,50,51,52,53,54,55,56,57,97,98,99,100,101,102] c=hxV c:=by
 revert c;refine Qj8 ?_;decide+kernel
theorem QtX (c:UInt8):Ret lb QcR [.str [48,49,50,51,52,53,54,55,56,57,97,98,99,100,101,102], .int .u8 (c.toNat:Int)] (.int .i64 (hxV c)):=by
 refine .lib rfl ?_
 simp only [Qgn,Int.toNat_natCast]
 rw [show c.toNat.toUInt8=c from by simp,QwW]
theorem QrT (c:UInt8):(hexV c=none∧hxV c=-1)∨∃n,hexV c=some n∧n<16∧hxV c=n:=by
 cases h:hexV c with
 |none=>exact .inl ⟨rfl,by simp [hxV,h]⟩
 |some n=>exact .inr ⟨n,rfl,(Qiq h).2,by simp [hxV,h]⟩
theorem QAB:∀a,a<16→∀b,b<16→IntKind.wrap .u8 (IntKind.wrap .i64 ((BitVec.ofInt 64 (IntKind.wrap .i64 ((a:Nat)*2^4))|||BitVec.ofInt 64 (b:Nat)).toNat))=((16*a+b:Nat):Int):=by decide+kernel
def escR (t:Bs):Nat×Nat:=match t with
 | []=>(0,0)
 | d::r=>if d.toNat=34∨d.toNat=92 then (d.toNat,1) else if d.toNat=120 then
   match r with
   |h::l::_=>match hexV h,hexV l with
    |some a,some b=>if 32≤16*a+b∧16*a+b≤126 then (0,0) else (16*a+b,3)
    |_,_=>(0,0)
   |_=>(0,0)
  else (0,0)
theorem QxF (t:Bs):(escR t).2≤t.length∧(escR t).2≤3∧(escR t).1<256:=by
 unfold escR
 split
 ·simp
 rename_i d r
 have:=d.toNat_lt
 split
 ·exact ⟨by simp,by simp,by simpa using this⟩
 split
 ·split
  ·split
   ·rename_i a b ha hb
    have:=(Qiq ha).2
    have:=(Qiq hb).2
    split
    ·simp
    ·exact ⟨by simp only [List.length_cons];omega,by simp,by simp only;omega⟩
   ·simp
  ·simp
 ·simp
theorem Qzi (r:Bs):unqI (92::r)=if (escR r).2=0 then none else (unqI (r.drop (escR r).2)).map (UInt8.ofNat (escR r).1:: ·):=by
 rw [Qkj,if_neg (by decide),if_pos (by decide)]
 match r with
 | []=>simp [escR]
 |d::r'=>
  simp only [escR]
  by_cases h1:d.toNat=34∨d.toNat=92
  ·simp [h1]
  ·simp only [h1,if_false]
   by_cases h2:d.toNat=120
   ·simp only [h2,if_true]
    match r' with
    | []=>simp
    | [x]=>simp
    |x::y::r''=>
     simp only
     cases hx:hexV x with
     |none=>simp
     |some a=>
      cases hy:hexV y with
      |none=>simp
      |some b=>
       simp only
       by_cases h3:32≤16*a+b∧16*a+b≤126
       ·simp [h3]
       ·simp [h3]
   ·simp [h2]
theorem Qkv (t:Bs) (ht:t.length≤1000000000):Ret lb QiI [.str t] (.tup [.int .u8 ((escR t).1:Int), .int .i64 ((escR t).2:Int)]):=by
 refine .top rfl (.eq (fun n=>by rw [QqZ]) ?_)
 match t,ht with
 | [],_=>exact .done
 |d::r,ht=>
  simp only [show (d::r==([]:Bs))=false from rfl,cond_false,show atS (d::r) 0=some d from rfl,Qa1]
  unfold escR
  by_cases h1:d.toNat=34
  ·simp only [beqT (show (d.toNat:Int)=34 by omega),cond_true]
   simp only [h1,true_or,if_true]
   refine .of ?_;first|rfl|simp
  simp only [beqF (show (d.toNat:Int)≠34 by omega),cond_false]
  by_cases h2:d.toNat=92
  ·simp only [beqT (show (d.toNat:Int)=92 by omega),cond_true]
   simp only [h2,or_true,if_true]
   refine .of ?_;first|rfl|simp
  simp only [beqF (show (d.toNat:Int)≠92 by omega),cond_false,h1,h2,or_self,if_false]
  by_cases h3:d.toNat=120
  ·simp only [bneF (show (d.toNat:Int)=120 by omega),cond_false]
   simp only [h3,if_true]
   match r,ht with
   | [],_=>exact .of rfl
   | [x],_=>exact .of rfl
   |x::y::r',_=>
    simp only [decF (show ¬((d::x::y::r':Bs).length:Int)<3 by simp only [List.length_cons];omega),cond_false,show atS (d::x::y::r') 1=some x from rfl,show atS (d::x::y::r') 2=some y from rfl,Qa1]
    refine .call (QtX lb x) ?_
    refine .call (QtX lb y) ?_
    simp only [Qa1,QaE]
    rcases QrT x with ⟨hx,ex⟩|⟨a,hx,ha,ex⟩
    ·simp only [hx,ex]
     refine .of ?_;first|rfl|simp
    rcases QrT y with ⟨hy,ey⟩|⟨b,hy,hb,ey⟩
    ·simp only [hx,hy,ex,ey,decF (show ¬(a:Int)<0 by omega),cond_false]
     refine .of ?_;first|rfl|simp
    simp only [hx,hy,ex,ey,decF (show ¬(a:Int)<0 by omega),decF (show ¬(b:Int)<0 by omega),cond_false,QAB a ha b hb]
    by_cases h4:32≤16*a+b
    ·rw [decT (show ((16*a+b:Nat):Int)≥32 by omega),cond_true]
     by_cases h5:16*a+b≤126
     ·rw [decT (show ((16*a+b:Nat):Int)≤126 by omega),cond_true,if_pos ⟨h4,h5⟩]
      exact .of rfl
     ·rw [decF (show ¬((16*a+b:Nat):Int)≤126 by omega),cond_false,if_neg (by omega)]
      exact .of rfl
    ·rw [decF (show ¬((16*a+b:Nat):Int)≥32 by omega),cond_false,if_neg (by omega)]
     exact .of rfl
  ·simp only [bneT (show (d.toNat:Int)≠120 by omega),cond_true,h3,if_false]
   refine .of ?_;first|rfl|simp
def unqR (o:Option Bs):CV:=match o with
 |some b=> .tup [.str b, .int .i64 0]
 |none=> .tup [.str [], .int .i64 3]
theorem Qo6 (s inner:Bs) (hs:inner.length≤1000000000) (he:(s.take ((IntKind.wrap .i64 ((s.length:Int)-1)).toNat)).drop 1=inner):
  ∀(N:Nat) (t p b:Bs),t.length≤N→p++t=inner→b.length≤p.length→Evt fun n=>∀k,t.length<k→Qd5 lb n k s (bcv b) (p.length:Int)=some (unqR ((unqI t).map (b++ ·)))
 |N, [],p,b,hN,hp,hb=> .all fun n k hk=>by
  obtain ⟨k,rfl⟩:∃m,k=m+1:=⟨k-1,by simp at hk;omega⟩
  have:p=inner:=by simpa using hp
  rw [QcH,he,decF (by rw [this];omega),cond_false,Qnj,QoS]
  simp [Qa1,unqR,unqI]
 |0,c::t,p,b,hN,_,_=>by simp at hN
 |N+1,c::t,p,b,hN,hp,hb=>by
  have hl:inner.length=p.length+(t.length+1):=by rw [←hp];simp
  have hat:atS inner (p.length:Int)=some c:=QiA (by rw [←hp];simp)
  have hlt:(p.length:Int)<(inner.length:Int):=by omega
  have hw:IntKind.wrap .i64 ((p.length:Int)+1)=((p++ [c]).length:Int):=by rw [QaD (by omega) (by omega)];simp
  have r1:room ((bcv b).length+1) 1=true:=Qdj (by rw [QyO];omega)
  by_cases hbad:c.toNat=34∨c.toNat<32∨126<c.toNat
  ·refine .all fun n k hk=> ?_
   obtain ⟨k,rfl⟩:∃m,k=m+1:=⟨k-1,by simp at hk;omega⟩
   rw [QcH,he]
   simp only [hlt,decide_true,cond_true,hat,Qa1,Qkj,hbad,if_true,Option.map_none,unqR]
   by_cases h1:c.toNat=34
   ·rw [beqT (by omega),cond_true]
   rw [beqF (by omega),cond_false]
   by_cases h2:c.toNat<32
   ·rw [decT (by omega),cond_true]
   rw [decF (by omega),cond_false,decT (by omega),cond_true]
  ·have hg:∀{x y:Option CV},(bif ((c.toNat:Int)==34) then x else bif (decide ((c.toNat:Int)<32)) then x else bif (decide ((c.toNat:Int)>126)) then x else y)=y:=by
    intro x y
    rw [beqF (by omega),cond_false,decF (by omega),cond_false,decF (by omega),cond_false]
   by_cases h92:c.toNat=92
   ·have ec:c=92:=Qg0 h92
    have hr:(inner.take ((inner.length:Int)).toNat).drop ((p++ [c]).length:Int).toNat=t:=by
     rw [Int.toNat_natCast,Int.toNat_natCast,List.take_length,←hp,show p++c::t=(p++ [c])++t by simp,List.drop_left]
    obtain ⟨e1,e2,e3⟩:=QxF t
    have hu:=Qzi t
    by_cases h0:(escR t).2=0
    ·refine (Qkv lb t (by omega)).mono fun n hn k hk=> ?_
     obtain ⟨k,rfl⟩:∃m,k=m+1:=⟨k-1,by simp at hk;omega⟩
     rw [QcH,he]
     simp only [hlt,decide_true,cond_true,hat,Qa1,hg,beqT (show (c.toNat:Int)=92 by omega),hw,hr,hn,QlP,get0,get1,QaE]
     rw [decT (by simp;omega),Qd0,beqT (by omega),cond_true,ec,hu,if_pos h0]
     rfl
    ·have hd:(p++ [c]++t.take (escR t).2)++t.drop (escR t).2=inner:=by
      rw [List.append_assoc,List.take_append_drop,←hp];simp
     have hlen:(p++ [c]++t.take (escR t).2).length=p.length+1+(escR t).2:=by simp;omega
     refine (Qo6 s inner hs he N (t.drop (escR t).2) _ (b++ [UInt8.ofNat (escR t).1]) (by simp at hN⊢;omega) hd (by rw [hlen];simp;omega)).imp2 (Qkv lb t (by omega)) fun n hn hesc k hk=> ?_
     obtain ⟨k,rfl⟩:∃m,k=m+1:=⟨k-1,by simp at hk;omega⟩
     have hn:=hn k (by simp at hk⊢;omega)
     rw [hlen] at hn
     rw [QcH,he]
     simp only [hlt,decide_true,cond_true,hat,Qa1,hg,beqT (show (c.toNat:Int)=92 by omega),hw,hr,hesc,QlP,get0,get1,QaE,QvV,r1,Qd0]
     rw [decT (by simp;omega),Qd0,beqF (by omega),cond_false,QaD (x:=(p.length:Int)+((escR t).2:Int)) (by omega) (by omega),QaD (by omega) (by omega),ec,hu,if_neg h0]
     have e5:bcv b++ [[CV.int .u8 ((escR t).1:Int)]]=bcv (b++ [UInt8.ofNat (escR t).1]):=by
      simp [bcv,Nat.mod_eq_of_lt e3]
     rw [e5,show (p.length:Int)+((escR t).2:Int)+1=((p.length+1+(escR t).2:Nat):Int) by omega,hn]
     cases unqI (t.drop (escR t).2)<;>simp
   ·have hd:(p++ [c])++t=inner:=by rw [←hp];simp
    refine (Qo6 s inner hs he N t (p++ [c]) (b++ [c]) (by simp at hN;omega) hd (by simp;omega)).mono fun n hn k hk=> ?_
    obtain ⟨k,rfl⟩:∃m,k=m+1:=⟨k-1,by simp at hk;omega⟩
    have hn:=hn k (by simp at hk;omega)
    rw [QcH,he]
    simp only [hlt,decide_true,cond_true,hat,Qa1,hg,beqF (show (c.toNat:Int)≠92 by omega),cond_false,r1,Qd0,hw]
    rw [show bcv b++ [[CV.int .u8 (c.toNat:Int)]]=bcv (b++ [c]) by simp [bcv],hn,Qkj,if_neg hbad,if_neg h92]
    cases unqI t<;>simp
theorem Qgr (s:Bs) (hs:s.length≤1000000000):Ret lb Qbs [.str s] (unqR (unq s)):=by
 refine .top rfl (.eq (fun n=>by rw [Qqb]) ?_)
 unfold unq
 by_cases h2:s.length<2
 ·rw [if_neg (by omega)]
  simp only [decT (show (s.length:Int)<2 by omega),cond_true]
  exact .done
 simp only [decF (show ¬(s.length:Int)<2 by omega),cond_false]
 have hw:IntKind.wrap .i64 ((s.length:Int)-1)=((s.length-1:Nat):Int):=by rw [QaD (by omega) (by omega)];omega
 obtain ⟨x,hx⟩:∃x,s[0]?=some x:=⟨s[0],List.getElem?_eq_getElem (by omega)⟩
 obtain ⟨y,hy⟩:∃y,s[s.length-1]?=some y:=⟨s[s.length-1],List.getElem?_eq_getElem (by omega)⟩
 have hx':atS s 0=some x:=QiA (i:=0) hx
 have hy':atS s ((s.length-1:Nat):Int)=some y:=QiA hy
 have hh:s.head?=some x:=by rw [List.head?_eq_getElem?];exact hx
 have hg:s.getLast?=some y:=by rw [List.getLast?_eq_getElem?];exact hy
 rw [hh,hg]
 simp only [hx',Qa1]
 by_cases h34:x=34
 ·simp only [bneF (show (x.toNat:Int)=34 by rw [h34];rfl),cond_false,hw,hy',Qa1]
  by_cases h35:y=34
  ·rw [if_pos ⟨by omega,by rw [h34],by rw [h35]⟩]
   simp only [bneF (show (y.toNat:Int)=34 by rw [h35];rfl),cond_false]
   have hin:(s.take ((s.length-1:Nat):Int).toNat).drop 1=(s.take (s.length-1)).drop 1:=by simp
   have hil:((s.take (s.length-1)).drop 1).length=s.length-2:=by simp;omega
   refine .chk (decT ⟨by omega,by omega⟩) (.chk (decT ⟨by omega,by omega⟩) (.chk ?_ ?_))
   ·rw [hin,hil];simp;omega
   ·have:=Qo6 lb s ((s.take (s.length-1)).drop 1) (by omega) (by rw [hw,hin]) _ _ [] [] (Nat.le_refl _) rfl (Nat.le_refl _)
    refine (Evt.diag this).mono fun n hn=>Eq.trans hn ?_
    cases unqI ((s.take (s.length-1)).drop 1)<;>simp
  ·rw [if_neg (by rintro ⟨_,_,q⟩;exact h35 (by simpa using q))]
   have:y.toNat≠34:=fun q=>h35 (Qg0 q)
   simp only [bneT (show (y.toNat:Int)≠34 by omega),cond_true]
   exact .done
 ·rw [if_neg (by rintro ⟨_,q,_⟩;exact h34 (by simpa using q))]
  have:x.toNat≠34:=fun q=>h34 (Qg0 q)
  simp only [bneT (show (x.toNat:Int)≠34 by omega),cond_true]
  exact .done
end Go.Proofs
set_option linter.unusedSimpArgs false
namespace Go.Proofs
open Go.Am
variable (lb:Nat)
end Go.Proofs
set_option linter.unusedSimpArgs false
namespace Go.Proofs
open Go.Am
variable (lb:Nat)
def QjZ (l:List Bs):Nat:=(l.map List.length).sum
theorem QoO (w:Bs) (l:List Bs):QjZ (w::l)=w.length+QjZ l:=by simp [QjZ]
theorem Qqi {w:Bs}:∀{l:List Bs},w∈l→w.length≤QjZ l
 | [],h=>by cases h
 |x::l,h=>by
  rw [QoO]
  rcases List.mem_cons.1 h with rfl|h
  ·omega
  ·have:=Qqi h;omega
def cutR (ps:List Bs) (o:Option (List Bs)):CV:=match o with
 |some l=> .tup [.list false (scv (ps++l)), .bool true]
 |none=> .tup [.list true [], .bool false]
theorem Qxp (s:Bs) {i:Nat} {c:UInt8} (h:s[i]?=some c):(c.toNat<128→Utf8.decode ⟨s.toArray⟩ i=(c.toNat,1))∧(128≤c.toNat→126<(Utf8.decode ⟨s.toArray⟩ i).1):=by
 obtain ⟨hl,hc⟩:=List.getElem?_eq_some_iff.1 h
 have hsz:i<(⟨s.toArray⟩:ByteArray).size:=by simpa [ByteArray.size] using hl
 have hg:((⟨s.toArray⟩:ByteArray)[i]'hsz)=c:=hc
 refine ⟨fun q=> ?_,fun q=> ?_⟩
 ·rw [decode_ascii _ _ hsz (by rw [hg];exact q),hg]
 ·have:=(decode_high ⟨s.toArray⟩ i hsz (by rw [hg];exact q)).1
  omega
theorem Qpr (s:Bs) (hs:s.length≤1000000000):∀(t A cur:Bs) (ps:List Bs) (bn q e:Bool),A++cur++t=s→ps.length≤A.length→
  Evt fun n=>∀k,t.length<k→Qbj lb n k s bn (scv ps) (A.length:Int) q e (A++cur).length=some (cutR ps (cutB t cur q e))
 | [],A,cur,ps,bn,q,e,h,hp=> .all fun n k hk=>by
  obtain ⟨k,rfl⟩:∃m,k=m+1:=⟨k-1,by simp at hk;omega⟩
  have hsA:A++cur=s:=by simpa using h
  have hl:s.length=A.length+cur.length:=by rw [←hsA,List.length_append]
  rw [Qcl,decF (by rw [hsA];omega),cond_false,Qrv,decT ⟨by omega,by omega⟩,Qd0,Qdj (by rw [QhL];omega),Qd0]
  have e1:(s.take ((s.length:Int)).toNat).drop ((A.length:Int)).toNat=cur:=by
   rw [Int.toNat_natCast,Int.toNat_natCast,List.take_length,←hsA,List.drop_left]
  rw [e1,Bool.and_false]
  simp [cutR,cutB,scv]
 |c::t,A,cur,ps,bn,q,e,h,hp=>by
  have hl:s.length=A.length+cur.length+(t.length+1):=by rw [←h];simp only [List.length_append,List.length_cons]
  have hat:s[(A++cur).length]?=some c:=by rw [←h];simp
  have hlt:(A++cur).length<s.length:=by rw [List.length_append];omega
  obtain ⟨d1,d2⟩:=Qxp s hat
  have hnext:(A++(cur++ [c]))++t=s:=by rw [←h];simp
  by_cases hbad:c.toNat<32∨126<c.toNat
  ·refine .all fun n k hk=> ?_
   obtain ⟨k,rfl⟩:∃m,k=m+1:=⟨k-1,by simp at hk;omega⟩
   rw [Qcl,decT hlt,cond_true,cutB,if_pos hbad]
   by_cases h1:c.toNat<128
   ·rw [d1 h1]
    rcases hbad with h2|h2
    ·rw [decT (show ((c.toNat:Nat):Int)<32 by omega),cond_true];rfl
    ·rw [decF (show ¬((c.toNat:Nat):Int)<32 by omega),cond_false,decT (show ((c.toNat:Nat):Int)>126 by omega),cond_true];rfl
   ·have h3:=d2 (by omega)
    rw [decF (show ¬(((Utf8.decode ⟨s.toArray⟩ (A++cur).length).1:Nat):Int)<32 by omega),cond_false,decT (show (((Utf8.decode ⟨s.toArray⟩ (A++cur).length).1:Nat):Int)>126 by omega),cond_true];rfl
  have hd:=d1 (by omega)
  have hpos:(A++cur).length+1=(A++(cur++ [c])).length:=by simp;omega
  have hg:∀{x y:Option CV},(bif decide (((c.toNat:Nat):Int)<32) then x else bif decide (((c.toNat:Nat):Int)>126) then x else y)=y:=by
   intro x y
   rw [decF (by omega),cond_false,decF (by omega),cond_false]
  have step:∀q' e',cutB (c::t) cur q e=cutB t (cur++ [c]) q' e'→
    (∀n k,Qbj lb n (k+1) s bn (scv ps) (A.length:Int) q e (A++cur).length=Qbj lb n k s bn (scv ps) (A.length:Int) q' e' ((A++cur).length+1))→
    Evt fun n=>∀k,(c::t).length<k→Qbj lb n k s bn (scv ps) (A.length:Int) q e (A++cur).length=some (cutR ps (cutB (c::t) cur q e)):=by
   intro q' e' h1 h2
   refine (Qpr s hs t A (cur++ [c]) ps bn q' e' hnext hp).mono fun n hn k hk=> ?_
   obtain ⟨k,rfl⟩:∃m,k=m+1:=⟨k-1,by simp at hk;omega⟩
   rw [h2,h1,hpos]
   exact hn k (by simp at hk;omega)
  cases e with
  |true=>
   refine step q false (by rw [cutB,if_neg hbad,if_pos rfl]) fun n k=> ?_
   rw [Qcl,decT hlt,cond_true,hd,hg,cond_true]
  |false=>
   by_cases h92:q=true∧c.toNat=92
   ·obtain ⟨rfl,h92⟩:=h92
    refine step true true (by rw [cutB,if_neg hbad,if_neg (by decide),if_pos ⟨rfl,h92⟩]) fun n k=> ?_
    rw [Qcl,decT hlt,cond_true,hd,hg,cond_false,cond_true,beqT (show ((c.toNat:Nat):Int)=92 by omega),cond_true]
   by_cases h34:c.toNat=34
   ·refine step (!q) false (by rw [cutB,if_neg hbad,if_neg (by decide),if_neg h92,if_pos h34]) fun n k=> ?_
    rw [Qcl,decT hlt,cond_true,hd,hg,cond_false,beqF (show ((c.toNat:Nat):Int)≠92 by omega),beqT (show ((c.toNat:Nat):Int)=34 by omega)]
    cases q<;>rfl
   by_cases h32:c.toNat=32∧(!q)=true
   ·obtain ⟨h32,hq⟩:=h32
    have hq:q=false:=by simpa using hq
    subst hq
    refine (Qpr s hs t (A++(cur++ [c])) [] (ps++ [cur]) false false false (by rw [List.append_nil];exact hnext) (by simp;omega)).mono fun n hn k hk=> ?_
    obtain ⟨k,rfl⟩:∃m,k=m+1:=⟨k-1,by simp at hk;omega⟩
    have hn:=hn k (by simp at hk;omega)
    rw [Qcl,decT hlt,cond_true,hd,hg,cond_false,cond_false,beqF (show ((c.toNat:Nat):Int)≠34 by omega),cond_false,beqT (show ((c.toNat:Nat):Int)=32 by omega),cond_true,Bool.not_false,cond_true,
     decT ⟨by omega,by omega⟩,Qd0,decT ⟨by omega,by rw [List.length_append];omega⟩,Qd0,Qdj (by rw [QhL];omega),Qd0,QaD (by omega) (by omega)]
    have e1:(s.take (((A++cur).length:Int)).toNat).drop ((A.length:Int)).toNat=cur:=by
     rw [Int.toNat_natCast,Int.toNat_natCast,←h,List.take_left,List.drop_left]
    rw [e1,Bool.and_false,hpos,show (((A++cur).length:Int)+1)=((A++(cur++ [c])).length:Int) by rw [←hpos];omega,show scv ps++ [[CV.str cur]]=scv (ps++ [cur]) by simp [scv]]
    rw [List.append_nil] at hn
    rw [hn,cutB,if_neg hbad,if_neg (by decide),if_neg (by simp),if_neg h34,if_pos ⟨h32,rfl⟩]
    cases cutB t [] false false<;>simp [cutR]
   ·refine step q false (by rw [cutB,if_neg hbad,if_neg (by decide),if_neg h92,if_neg h34,if_neg h32]) fun n k=> ?_
    rw [Qcl,decT hlt,cond_true,hd,hg,cond_false]
    cases q with
    |true=>
     have h92':c.toNat≠92:=fun x=>h92 ⟨rfl,x⟩
     rw [cond_true,beqF (show ((c.toNat:Nat):Int)≠92 by omega),cond_false,beqF (show ((c.toNat:Nat):Int)≠34 by omega),cond_false,Bool.not_true]
     cases ((c.toNat:Nat):Int)==32<;>rfl
    |false=>
     have h32':c.toNat≠32:=fun x=>h32 ⟨x,rfl⟩
     rw [cond_false,beqF (show ((c.toNat:Nat):Int)≠34 by omega),cond_false,beqF (show ((c.toNat:Nat):Int)≠32 by omega),cond_false]
theorem QtM (s:Bs) (hs:s.length≤1000000000):Ret lb Qch [.str s] (cutR [] (cutB s [] false false)):=by
 refine .top rfl (.eq (fun n=>by rw [Qus]) ?_)
 exact Evt.diag (Qpr lb s hs s [] [] [] true false false rfl (Nat.le_refl _))
def Qnd (bn:Bool) (o:Option (List Bs)):CV:=match o with
 |some l=> .tup [.list bn (scv l), .int .i64 0]
 |none=> .tup [.list true [], .int .i64 3]
theorem QkT (s:Bs) (x4 x6 r2:CV) (p9:Bool×List (List CV)) (ps:List Bs) (b4 b10:Bool) (hx:x4= .list b4 (scv ps)) (hsum:∀p∈ps,p.length≤1000000000) (hps:ps.length≤1000000000):
  ∀t p,p++t=ps→∀out:List Bs,out.length≤p.length→Evt fun n=>∀k,t.length<k→QeS lb n k s x4 x6 r2 p9 (b10,scv ps) (scv out) (p.length:Int)=some (Qnd false ((t.mapM Qkm).map (out++ ·)))
 | [],p,h,out,ho=> .all fun n k hk=>by
  obtain ⟨k,rfl⟩:∃m,k=m+1:=⟨k-1,by simp at hk;omega⟩
  have:p=ps:=by simpa using h
  rw [Qda,decF (by rw [this,QhL];omega),cond_false,Qpo]
  simp [Qnd]
 |w::t,p,h,out,ho=>by
  have hl:ps.length=p.length+(t.length+1):=by rw [←h];simp
  have hat:atL (scv ps) (p.length:Int)=some [.str w]:=Qa9 (Qze (by rw [←h];simp))
  have hw:w.length≤1000000000:=hsum w (by rw [←h];simp)
  have hnext:(p++ [w])++t=ps:=by rw [←h];simp
  have hlt:(p.length:Int)<((scv ps).length:Int):=by rw [QhL];omega
  have hwr:IntKind.wrap .i64 ((p.length:Int)+1)=((p++ [w]).length:Int):=by rw [QaD (by omega) (by omega)];simp
  have r1:room ((scv out).length+1) 16=true:=Qdj (by rw [QhL];omega)
  rw [List.mapM_cons]
  cases hpl:QjF w with
  |true=>
   refine (QkT s x4 x6 r2 p9 ps b4 b10 hx hsum hps t (p++ [w]) hnext (out++ [w]) (by simp;omega)).imp2 (Qdz lb w (Nat.le_trans hw (by decide))) fun n hn h1 k hk=> ?_
   obtain ⟨k,rfl⟩:∃m,k=m+1:=⟨k-1,by simp at hk;omega⟩
   have hn:=hn k (by simp at hk;omega)
   rw [Qda]
   simp only [decT hlt,cond_true,hx,Qmc,Qa1,hat,List.length_cons,List.length_nil,Nat.zero_add,beq_self_eq_true,Qd0,get0,h1,QaP,hpl,Bool.not_true,cond_false,QqG,r1,hwr]
   rw [←hx,show scv out++ [[CV.str w]]=scv (out++ [w]) by simp [scv],hn]
   simp only [Qkm,hpl,if_true]
   cases t.mapM Qkm<;>simp
  |false=>
   have hr:Qkm w=match unq w with
     |some t=>if QjF t then none else some t
     |none=>none:=by unfold Qkm;rw [hpl];rfl
   cases hu:unq w with
   |none=>
    refine (Qgr lb w hw).imp2 (Qdz lb w (Nat.le_trans hw (by decide))) fun n h2 h1 k hk=> ?_
    obtain ⟨k,rfl⟩:∃m,k=m+1:=⟨k-1,by simp at hk;omega⟩
    rw [Qda]
    simp only [decT hlt,cond_true,hx,Qmc,Qa1,hat,List.length_cons,List.length_nil,Nat.zero_add,beq_self_eq_true,Qd0,get0,get1,h1,h2,hu,unqR,QlP,QaE,QaP,hpl,Bool.not_false]
    rw [hr,hu]
    rfl
   |some v=>
    have hv:v.length≤1000000000:=by have:=QyN v;rw [←QxX hu] at this;omega
    cases hpv:QjF v with
    |true=>
     refine ((Qgr lb w hw).and (Qdz lb v (Nat.le_trans hv (by decide)))).imp2 (Qdz lb w (Nat.le_trans hw (by decide))) fun n ⟨h2,h3⟩ h1 k hk=> ?_
     obtain ⟨k,rfl⟩:∃m,k=m+1:=⟨k-1,by simp at hk;omega⟩
     rw [Qda]
     simp only [decT hlt,cond_true,hx,Qmc,Qa1,hat,List.length_cons,List.length_nil,Nat.zero_add,beq_self_eq_true,Qd0,get0,get1,h1,h2,h3,hu,hpv,unqR,QlP,QaE,QaP,hpl,Bool.not_false,bne_self_eq_false,cond_false]
     rw [hr,hu]
     simp [hpv,Qnd]
    |false=>
     refine ((QkT s x4 x6 r2 p9 ps b4 b10 hx hsum hps t (p++ [w]) hnext (out++ [v]) (by simp;omega)).and (Qgr lb w hw)).imp2 ((Qdz lb w (Nat.le_trans hw (by decide))).and (Qdz lb v (Nat.le_trans hv (by decide)))) fun n ⟨hn,h2⟩ ⟨h1,h3⟩ k hk=> ?_
     obtain ⟨k,rfl⟩:∃m,k=m+1:=⟨k-1,by simp at hk;omega⟩
     have hn:=hn k (by simp at hk;omega)
     rw [Qda]
     simp only [decT hlt,cond_true,hx,Qmc,Qa1,hat,List.length_cons,List.length_nil,Nat.zero_add,beq_self_eq_true,Qd0,get0,get1,h1,h2,h3,hu,hpv,unqR,QlP,QaE,QaP,hpl,Bool.not_false,bne_self_eq_false,cond_false,QqG,r1,hwr]
     rw [←hx,show scv out++ [[CV.str v]]=scv (out++ [v]) by simp [scv],hn,hr,hu]
     simp only [hpv]
     cases t.mapM Qkm<;>simp
theorem Qto:∀ps:List Bs,QjZ ps≤(Lib.join ps [32]).length∧ps.length≤(Lib.join ps [32]).length+1
 | []=>by simp [QjZ,Lib.join]
 | [w]=>by simp [QjZ,Lib.join]
 |w::x::r=>by
  have:=Qto (x::r)
  have e:Lib.join (w::x::r) [32]=w++32::Lib.join (x::r) [32]:=by simp [Lib.join,List.intercalate]
  rw [e,QoO]
  simp only [List.length_append,List.length_cons] at this⊢
  omega
theorem Qrl (s:Bs) (hs:s.length≤100000000):Ret lb QaY [.str s] (Qnd s.isEmpty (Qtu s)):=by
 refine .top rfl (.eq (fun n=>by rw [Qsv]) ?_)
 by_cases h0:s= []
 ·subst h0;exact .done
 rw [show s.isEmpty=false by simpa using h0]
 simp only [show (s== [])=false by simpa using h0,cond_false]
 refine .call (QtM lb s (by omega)) ?_
 unfold Qtu
 rw [if_neg h0]
 cases hc:cutB s [] false false with
 |none=>
  simp only [cutR,QlP,get0,get1,Qa1,QaP,Bool.not_false,cond_true]
  exact .of rfl
 |some ps=>
  simp only [cutR,List.nil_append,QlP,get0,get1,Qa1,QaP,Bool.not_true,cond_false,Qmc,QhL]
  obtain ⟨h1,h2⟩:=Qm2 hc
  have h3:=Qto ps
  rw [h2] at h3
  simp only [List.nil_append] at h3
  refine .chk ?_ ?_
  ·simp;omega
  ·refine (Evt.diag (QkT lb s (.list false (scv ps)) _ _ _ ps false false rfl (fun p hp=>by have:=Qqi hp;omega) (by omega) ps [] rfl [] (Nat.le_refl _))).mono fun n hn=>Eq.trans hn ?_
   rw [Option.bind_some]
   cases ps.mapM Qkm<;>simp
end Go.Proofs
set_option linter.unusedSimpArgs false
namespace Go.Proofs
open Go.Am
variable (lb:Nat)
theorem Qjk {x:Int} (h0:0≤x) (h1:x<18446744073709551616):IntKind.wrap .u64 x=x:=by
 unfold IntKind.wrap
 simp only [IntKind.bits,IntKind.signed]
 simp
 omega
theorem Qgt (z:Int) (h0:-9223372036854775808≤z) (h1:z≤9223372036854775807):Ret lb QdF [.int .i64 z] (.str (Lib.itoa z)):=by
 refine .top rfl (.eq (fun n=>by rw [QpO]) ?_)
 refine .call (v:= .str (Lib.itoa z)) (.lib rfl ?_) .done
 simp only [Ql7,if_pos (And.intro h0 h1),Qtd h0 h1]
theorem QrM:∀d,d<10→(([48,49,50,51,52,53,54,55,56,57]:Bs).take (d+1)).drop d= [UInt8.ofNat (48+d)]:=by decide+kernel
theorem Qlx:∀(N u:Nat),u≤N→u<18446744073709551616→Ret lb Qfr [.int .u64 (u:Int)] (.str (Lib.decDigits u)):=by
 intro N
 induction N with
 |zero=>
  intro u hu _
  have:u=0:=by omega
  subst this
  refine .top rfl (.all fun n=> ?_)
  rw [Qmm,Lib.decDigits,dif_pos (by decide)]
  rfl
 |succ N ih=>
  intro u hu h64
  refine .top rfl (.eq (fun n=>by rw [Qmm]) ?_)
  by_cases h:u<10
  ·simp only [decT (show (u:Int)<10 by omega),cond_true,Qjk (x:=(u:Int)+1) (by omega) (by omega)]
   refine .chk (decT ⟨by omega,by omega⟩) (.chk (decT ⟨by omega,by omega⟩) ?_)
   rw [Lib.decDigits,dif_pos h,show ((u:Int)+1).toNat=u+1 by omega,Int.toNat_natCast,QrM u h]
   exact .done
  ·simp only [decF (show ¬(u:Int)<10 by omega),cond_false]
   have e1:IntKind.wrap .u64 (Int.tdiv (u:Int) 10)=((u/10:Nat):Int):=by
    rw [show Int.tdiv (u:Int) 10=((u/10:Nat):Int) from rfl,Qjk (by omega) (by omega)]
   have e2:Int.tmod (u:Int) 10=((u%10:Nat):Int):=rfl
   have e3:IntKind.wrap .u64 (((u%10:Nat):Int)+1)=((u%10+1:Nat):Int):=by rw [Qjk (by omega) (by omega)];omega
   simp only [e1,e2,e3]
   refine .call (ih (u/10) (by omega) (by omega)) ?_
   refine .chk (decT ⟨by omega,by omega⟩) (.chk (decT ⟨by omega,by omega⟩) ?_)
   simp only [Qa1,Qwh,Int.toNat_natCast,QrM _ (show u%10<10 by omega)]
   rw [Lib.decDigits.eq_def u,dif_neg h]
   refine .chk (decT ?_) .done
   have:=Qfv (z:=((u/10:Nat):Int)) (by omega) (by omega)
   unfold Lib.itoa at this
   rw [if_neg (by omega),Int.toNat_natCast] at this
   simp only [List.length_cons,List.length_nil]
   omega
theorem Qg5 (z:Int) (h0:-9223372036854775808≤z) (h1:z≤9223372036854775807):Ret lb QdZ [.int .i64 z] (.str (Lib.itoa z)):=by
 refine .top rfl (.eq (fun n=>by rw [Qry]) ?_)
 unfold Lib.itoa
 by_cases h:z<0
 ·simp only [decT h,cond_true,if_pos h,QaD (x:=z+1) (by omega) (by omega),QaD (x:=0-(z+1)) (by omega) (by omega),Qjk (x:=0-(z+1)) (by omega) (by omega),Qjk (x:=0-(z+1)+1) (by omega) (by omega)]
  rw [show 0-(z+1)+1=(z.natAbs:Int) by omega]
  refine .call (Qlx lb z.natAbs z.natAbs (Nat.le_refl _) (by omega)) ?_
  simp only [Qa1,Qwh]
  refine .chk (decT ?_) .done
  have:=Qfv h0 h1
  unfold Lib.itoa at this
  rw [if_pos h] at this
  simp only [List.length_cons,List.length_nil] at this⊢
  omega
 ·simp only [decF h,cond_false,if_neg h,Qjk (x:=z) (by omega) (by omega)]
  have:=Qlx lb z.toNat z.toNat (Nat.le_refl _) (by omega)
  rw [show ((z.toNat:Nat):Int)=z by omega] at this
  exact .call this .done
end Go.Proofs
set_option linter.unusedSimpArgs false
namespace Go.Proofs
open Go.Am
variable (lb:Nat)
def Qb6 (c:UInt8):Bs→List Bs
 | []=> [[]]
 |x::r=>if x=c then []::Qb6 c r else match Qb6 c r with
  |w::ws=>(x::w)::ws
  | []=> [[x]]
theorem QrQ (c:UInt8):∀s,Qb6 c s≠ []
 | []=>by simp [Qb6]
 |x::r=>by
  unfold Qb6
  split
  ·simp
  ·split<;>simp
theorem Qmu (c:UInt8) (l:Bs):Lib.index (c::l) [c]=0:=by
 rw [Lib.index]
 simp
theorem QsL {b c:UInt8} (l:Bs) (h:b≠c):Lib.index (b::l) [c]=if Lib.index l [c]=-1 then-1 else Lib.index l [c]+1:=by
 rw [Lib.index]
 have:¬c=b:=fun q=>h q.symm
 simp [this]
theorem QuK {c:UInt8} {l:Bs} (h:Lib.count l [c]≠0):Lib.index l [c]≠-1:=by
 intro q
 apply h
 unfold Lib.count
 rw [Lib.countFrom]
 simp [q]
theorem QlZ {c:UInt8} {k:Nat} {l:Bs} (h:Lib.index l [c]≠-1):Lib.splitK [c] 0 (k+1) l=l.take (Lib.index l [c]).toNat::Lib.splitK [c] 0 k (l.drop ((Lib.index l [c]).toNat+1)):=by
 rw [Lib.splitK]
 have:(Lib.index l [c]==-1)=false:=by simpa using h
 simp [this]
theorem Qr1 (c:UInt8):∀s:Bs,Lib.split s [c]=Qb6 c s
 | []=>by simp [Lib.split,Lib.count,Lib.countFrom,Lib.index,Qb6,Lib.splitK]
 |x::l=>by
  have ih:=Qr1 c l
  unfold Lib.split at ih⊢
  by_cases h:x=c
  ·subst h
   rw [Lib.count_cons_eq,Nat.add_comm 1,QlZ (by rw [Qmu];decide),Qmu]
   simp only [Qb6,if_true]
   simpa using ih
  ·rw [Lib.count_cons_ne x c l h]
   cases hk:Lib.count l [c] with
   |zero=>
    rw [hk] at ih
    simp only [Lib.splitK] at ih⊢
    simp [Qb6,h,←ih]
   |succ k=>
    have hi:=QuK (c:=c) (l:=l) (by omega)
    have hge:=Lib.index_ge l [c]
    rw [hk,QlZ hi] at ih
    have hx:Lib.index (x::l) [c]=Lib.index l [c]+1:=by rw [QsL l h,if_neg hi]
    rw [QlZ (by rw [hx];omega),hx]
    obtain ⟨i,hi'⟩:∃i:Nat,Lib.index l [c]=i:=⟨(Lib.index l [c]).toNat,by omega⟩
    rw [hi'] at ih⊢
    rw [show ((i:Int)+1).toNat=i+1 by omega,List.take_succ_cons,List.drop_succ_cons]
    rw [Int.toNat_natCast] at ih
    simp [Qb6,h,←ih]
def nmB (b:Bool):Bs→Bool
 | []=> !b
 |c::r=>if isUp c then nmB false r else if c.toNat=32 then !b&&nmB true r else false
def Qg2 (s:Bs):Bool:=decide (s.length≤30)&&nmB true s
def QfM (ws:List Bs):Bool:=ws.all fun w=> !w.isEmpty&&w.all isUp
theorem Qyx {c:UInt8} (h:isUp c=true):c.toNat≠32∧c≠32:=by
 simp only [isUp,Bool.and_eq_true,decide_eq_true_eq] at h
 exact ⟨by omega,fun q=>by subst q;simp at h⟩
theorem QtV:∀s:Bs,QfM (Qb6 32 s)=nmB true s∧(match Qb6 32 s with
  |w::ws=>w.all isUp&&QfM ws
  | []=>false)=nmB false s
 | []=>by simp [Qb6,QfM,nmB]
 |c::r=>by
  obtain ⟨h1,h2⟩:=QtV r
  unfold Qb6 nmB
  by_cases hu:isUp c=true
  ·have:=Qyx hu
   rw [if_neg this.2]
   simp only [hu,if_true]
   cases hs:Qb6 32 r with
   |nil=>exact (QrQ 32 r hs).elim
   |cons w ws=>
    rw [hs] at h2
    simp only at h2
    constructor
    ·rw [←h2];simp [QfM,hu]
    ·rw [←h2];simp [hu]
  ·by_cases h32:c.toNat=32
   ·have hc:c=32:=Qg0 h32
    simp only [hu,hc,if_true,Bool.false_eq_true,if_false]
    have hu32:isUp 32=false:=rfl
    constructor
    ·simp [QfM,hu32]
    ·simp [h1,hu32]
   ·have hc:c≠32:=fun q=>h32 (by rw [q];rfl)
    simp only [hu,hc,h32,if_false,Bool.false_eq_true]
    cases hs:Qb6 32 r with
    |nil=>exact (QrQ 32 r hs).elim
    |cons w ws=>simp [QfM,hu]
theorem Qqp (c:UInt8):∀s,(Qb6 c s).length≤s.length+1∧∀w∈Qb6 c s,w.length≤s.length
 | []=>by simp [Qb6]
 |x::r=>by
  obtain ⟨h1,h2⟩:=Qqp c r
  unfold Qb6
  split
  ·refine ⟨by simp;omega,fun w hw=> ?_⟩
   rcases List.mem_cons.1 hw with rfl|hw
   ·simp
   ·have:=h2 w hw;simp;omega
  ·split
   ·rename_i w ws hs
    rw [hs] at h1 h2
    refine ⟨by simp at h1⊢;omega,fun v hv=> ?_⟩
    rcases List.mem_cons.1 hv with rfl|hv
    ·have:=h2 w (List.mem_cons_self ..);simp;omega
    ·have:=h2 v (List.mem_cons_of_mem _ hv);simp;omega
   ·refine ⟨by simp,fun v hv=> ?_⟩
    simp only [List.mem_cons,List.not_mem_nil,or_false] at hv
    subst hv;simp
theorem QwR (s:Bs) (c:UInt8) (hs:s.length≤1000000000):Ret lb Qff [.str s, .str [c]] (.list false (scv (Qb6 c s))):=by
 refine .lib rfl ?_
 unfold QkC
 simp only
 rw [if_pos ⟨by omega,by simp⟩,Qr1]
 rfl
theorem Qsz (s:Bs) (hs:s.length≤1000000000):Ret lb QbG [.str s] (.bool (Qg2 s)):=by
 refine .top rfl (.eq (fun n=>by rw [Qnv]) ?_)
 unfold Qg2
 by_cases h:s.length≤30
 ·simp only [decF (show ¬(s.length:Int)>30 by omega),cond_false,h,decide_true,Bool.true_and]
  refine .call (QwR lb s 32 hs) ?_
  simp only [Qa1,Qmc]
  rw [←(QtV s).1]
  obtain ⟨h1,h2⟩:=Qqp 32 s
  generalize Qb6 32 s=l at h1 h2
  refine Evt.diag (m:=l.length) (Qd8 (enc:=fun w=> [CV.str w]) (l:=l) (by omega) (P:=fun p t n k=>Qhl lb n k s (.list false (scv l)) (false,scv l) (p.length:Int)=some (.bool (QfM t))) ?_ ?_ l [] rfl)
  ·refine .all fun n k=> ?_
   rw [QiP,decF (by rw [QhL];omega),cond_false,Qqs]
   rfl
  ·intro p w t hp hlt hat hw hev
   have hwl:=h2 w (by rw [←hp];simp)
   refine hev.imp2 (Qf5 lb w (by omega)) fun n hn hc k hk=> ?_
   have hat:atL (scv l) (p.length:Int)=some [.str w]:=hat
   have hlt:(p.length:Int)<((scv l).length:Int):=hlt
   rw [QiP]
   simp only [decT hlt,cond_true,Qmc,Qa1,hat,List.length_cons,List.length_nil,Nat.zero_add,beq_self_eq_true,Qd0,get0,Qwh,hc,QaP,hw]
   unfold QfM
   rw [List.all_cons]
   cases w with
   |nil=>rfl
   |cons x xs=>
    simp only [show (x::xs== [])=false from rfl,cond_false,List.isEmpty_cons,Bool.not_false,Bool.true_and]
    cases (x::xs).all isUp
    ·rfl
    ·simpa [QfM] using hn k hk
 ·simp only [decT (show (s.length:Int)>30 by omega),cond_true,h,decide_false,Bool.false_and]
  first|exact .done|exact .of trivial
theorem QqY:∀(s:Bs) (b:Bool) (x:UInt8),s.getLast?=some x→x.toNat=32→nmB b s=false
 | [],_,_,h,_=>by simp at h
 | [c],b,x,h,hx=>by
  simp at h;subst h
  have:isUp c=false:=by simp [isUp,hx]
  simp [nmB,this,hx]
 |c::d::r,b,x,h,hx=>by
  have h':(d::r).getLast?=some x:=by simpa [List.getLast?_cons] using h
  rw [nmB]
  split
  ·exact QqY _ _ _ h' hx
  ·split
   ·rw [QqY _ _ _ h' hx];simp
   ·rfl
theorem Qmx (s:Bs) (hs:s.length≤1000000000) (hlast:∀x,s.getLast?=some x→x.toNat≠32):∀(t p:Bs) (x:UInt8),p++x::t=s→
  Evt fun n=>∀k,t.length<k→Qf7 lb n k s ((p++ [x]).length:Int)=some (.bool (nmB (decide (x.toNat=32)) t))
 | [],p,x,h=> .all fun n k hk=>by
  obtain ⟨k,rfl⟩:∃m,k=m+1:=⟨k-1,by simp at hk;omega⟩
  have hx:=hlast x (by rw [←h];simp)
  rw [QgD,decF (by rw [←h];omega),cond_false,Qq7]
  simp [nmB,hx]
 |c::t,p,x,h=>by
  have hl:s.length=p.length+(t.length+2):=by rw [←h];simp
  have e:(p++ [x]).length=p.length+1:=by simp
  have hat:atS s ((p++ [x]).length:Int)=some c:=QiA (by rw [←h,e];simp [List.getElem?_append_right])
  have hat2:atS s (p.length:Int)=some x:=QiA (by rw [←h];simp)
  refine (Qmx s hs hlast t (p++ [x]) c (by rw [←h];simp)).imp2 (QdY lb c) fun n hn hc k hk=> ?_
  obtain ⟨k,rfl⟩:∃m,k=m+1:=⟨k-1,by simp at hk;omega⟩
  have hn:=hn k (by simp at hk;omega)
  have e2:IntKind.wrap .i64 (((p++ [x]).length:Int)+1)=((p++ [x]++ [c]).length:Int):=by rw [QaD (by omega) (by omega)];simp only [List.length_append,List.length_cons,List.length_nil];omega
  have e3:IntKind.wrap .i64 (((p++ [x]).length:Int)-1)=(p.length:Int):=by rw [QaD (by omega) (by omega)];omega
  rw [QgD]
  simp only [decT (show (((p++ [x]).length:Nat):Int)<(s.length:Int) by omega),cond_true,hat,Qa1,hc,QaP,e2,e3,hat2,nmB]
  cases hu:isUp c with
  |true=>
   have:=(Qyx hu).1
   rw [decF this] at hn
   simpa using hn
  |false=>
   rw [Bool.not_false,cond_true]
   by_cases h32:c.toNat=32
   ·rw [bneF (by omega),cond_false]
    by_cases hx:x.toNat=32
    ·rw [beqT (by omega),cond_true]
     simp [h32,hx]
    ·rw [beqF (by omega),cond_false]
     rw [decT h32] at hn
     simpa [h32,hx] using hn
   ·rw [bneT (by omega),cond_true]
    simp [h32]
theorem QnD (s:Bs) (hs:s.length≤1000000000):Ret lb Qb4 [.str s] (.bool (Qg2 s)):=by
 refine .top rfl (.eq (fun n=>by rw [QuW]) ?_)
 unfold Qg2
 match s,hs with
 | [],_=>exact .of rfl
 |c::r,hs=>
  simp only [decF (show ¬((c::r).length:Int)<1 by simp only [List.length_cons];omega),cond_false]
  by_cases h30:(c::r).length≤30
  ·simp only [decF (show ¬((c::r).length:Int)>30 by omega),cond_false,h30,decide_true,Bool.true_and]
   simp only [show atS (c::r) 0=some c from rfl]
   simp only [Qa1]
   by_cases h32:c.toNat=32
   ·simp only [beqT (show (c.toNat:Int)=32 by omega),cond_true]
    have:isUp c=false:=by simp [isUp,h32]
    exact .of (by simp [nmB,h32,this])
   ·simp only [beqF (show (c.toNat:Int)≠32 by omega),cond_false]
    obtain ⟨x,hx⟩:∃x,(c::r).getLast?=some x:=by
     cases hq:(c::r).getLast? with
     |none=>simp at hq
     |some x=>exact ⟨x,rfl⟩
    have hw:IntKind.wrap .i64 (((c::r).length:Int)-1)=((r.length:Nat):Int):=by rw [QaD (by simp only [List.length_cons] at hs⊢;omega) (by simp only [List.length_cons] at hs⊢;omega)];simp
    have hat:atS (c::r) ((r.length:Nat):Int)=some x:=QiA (by rw [List.getLast?_eq_getElem?] at hx;simpa using hx)
    rw [hw]
    simp only [hat]
    simp only [Qa1]
    by_cases hx32:x.toNat=32
    ·simp only [beqT (show (x.toNat:Int)=32 by omega),cond_true]
     rw [QqY _ _ _ hx hx32]
     exact .done
    ·simp only [beqF (show (x.toNat:Int)≠32 by omega),cond_false]
     have hlast:∀y,(c::r).getLast?=some y→y.toNat≠32:=fun y hy=>by
      rw [hx] at hy
      simp only [Option.some.injEq] at hy
      rw [←hy];exact hx32
     refine ((Qmx lb (c::r) hs hlast r [] c rfl).and (Evt.ge (r.length+2))).imp2 (QdY lb c) fun n ⟨hn,hge⟩ hc=> ?_
     obtain ⟨k,rfl⟩:∃k,n=k+1:=⟨n-1,by omega⟩
     have hn:=hn k (by omega)
     rw [QgD]
     simp only [decT (show (0:Int)<((c::r).length:Int) by simp only [List.length_cons];omega),cond_true]
     simp only [show atS (c::r) 0=some c from rfl]
     simp only [Qa1,hc,QaP]
     cases hu:isUp c with
     |true=>
      rw [Bool.not_true,cond_false,QaD (by omega) (by omega)]
      rw [decF h32] at hn
      simpa [nmB,hu] using hn
     |false=>
      rw [Bool.not_false,cond_true,bneT (by omega),cond_true]
      simp [nmB,hu,h32]
  ·simp only [decT (show ((c::r).length:Int)>30 by omega),cond_true,h30,decide_false,Bool.false_and]
   first|exact .done|exact .of trivial
end Go.Proofs
