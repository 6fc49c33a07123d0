/- Quoted texts, words and lines on plain data. Conditions: none; definitions and laws. -/
import Derived.Test.YtigmcfhmpcajlaaGreatDoorLib
set_option linter.unusedSimpArgs false
namespace Go.Proofs
abbrev Bs:=List UInt8
theorem Qj8 {P:UInt8→Prop} (h:∀k,k<256→P (UInt8.ofNat k)) (c:UInt8):P c:=by
 have:=h c.toNat c.toNat_lt
 simpa using this
theorem Qg0 {a b:UInt8} (h:a.toNat=b.toNat):a=b:=UInt8.toNat_inj.1 h
def hexB (n:Nat):UInt8:=if n<10 then UInt8.ofNat (48+n) else UInt8.ofNat (87+n)
def hexV (c:UInt8):Option Nat:=if 48≤c.toNat∧c.toNat≤57 then some (c.toNat-48) else if 97≤c.toNat∧c.toNat≤102 then some (c.toNat-87) else none
theorem QxH:∀n,n<16→(hexB n).toNat=if n<10 then 48+n else 87+n:=by decide+kernel
theorem Qiq {c:UInt8} {n:Nat} (h:hexV c=some n):c=hexB n∧n<16:=by
 unfold hexV at h
 have e:∀m,m<16→c.toNat=(if m<10 then 48+m else 87+m)→c=hexB m:=fun m hm q=>Qg0 (by rw [q,QxH m hm])
 split at h
 ·simp only [Option.some.injEq] at h
  refine ⟨e n (by omega) ?_,by omega⟩
  rw [if_pos (by omega)];omega
 ·split at h
  ·simp only [Option.some.injEq] at h
   refine ⟨e n (by omega) ?_,by omega⟩
   rw [if_neg (by omega)];omega
  ·cases h
def esc (c:UInt8):Bs:=if c.toNat=34∨c.toNat=92 then [92,c] else if c.toNat<32∨126<c.toNat then [92,120,hexB (c.toNat/16),hexB (c.toNat%16)] else [c]
def quo (s:Bs):Bs:=34::(s.flatMap esc++ [34])
def unqI:Bs→Option Bs
 | []=>some []
 |c::r=>
  if c.toNat=34∨c.toNat<32∨126<c.toNat then none
  else if c.toNat=92 then
   match r with
   | []=>none
   |d::r'=>
    if d.toNat=34∨d.toNat=92 then (unqI r').map (d:: ·)
    else if d.toNat=120 then
     match r' with
     |h::l::r''=>match hexV h,hexV l with
      |some a,some b=>if 32≤16*a+b∧16*a+b≤126 then none else (unqI r'').map (UInt8.ofNat (16*a+b):: ·)
      |_,_=>none
     |_=>none
    else none
  else (unqI r).map (c:: ·)
theorem Qkj (c:UInt8) (r:Bs):unqI (c::r)=
  if c.toNat=34∨c.toNat<32∨126<c.toNat then none
  else if c.toNat=92 then
   match r with
   | []=>none
   |d::r'=>
    if d.toNat=34∨d.toNat=92 then (unqI r').map (d:: ·)
    else if d.toNat=120 then
     match r' with
     |h::l::r''=>match hexV h,hexV l with
      |some a,some b=>if 32≤16*a+b∧16*a+b≤126 then none else (unqI r'').map (UInt8.ofNat (16*a+b):: ·)
      |_,_=>none
     |_=>none
    else none
  else (unqI r).map (c:: ·):=unqI.eq_def (c::r)
theorem QyV (c:UInt8):1≤(esc c).length∧(esc c).length≤4:=by
 unfold esc
 split
 ·simp
 ·split<;>simp
theorem QkE:∀(n:Nat) (r b:Bs),r.length≤n→unqI r=some b→r=b.flatMap esc
 |0,r,b,hn,h=>by
  have:r= []:=List.eq_nil_of_length_eq_zero (by omega)
  subst this
  simp [unqI] at h
  subst h;rfl
 |n+1, [],b,hn,h=>by
  simp [unqI] at h
  subst h;rfl
 |n+1,c::r,b,hn,h=>by
  rw [Qkj] at h
  split at h
  ·cases h
  rename_i h1
  split at h
  ·rename_i h2
   split at h
   ·cases h
   rename_i d r'
   have ec:c=92:=Qg0 h2
   split at h
   ·rename_i h3
    simp only [Option.map_eq_some_iff] at h
    obtain ⟨b',hb,rfl⟩:=h
    have:=QkE n r' b' (by simp at hn;omega) hb
    rw [List.flatMap_cons,←this]
    unfold esc
    rw [if_pos h3,ec];rfl
   ·split at h
    ·rename_i h3 h4
     split at h
     ·rename_i x y r''
      split at h
      ·rename_i a e ha he
       split at h
       ·cases h
       ·rename_i h5
        simp only [Option.map_eq_some_iff] at h
        obtain ⟨b',hb,rfl⟩:=h
        have:=QkE n r'' b' (by simp at hn;omega) hb
        obtain ⟨ea,ha'⟩:=Qiq ha
        obtain ⟨ee,he'⟩:=Qiq he
        have hn':(UInt8.ofNat (16*a+e)).toNat=16*a+e:=by simp;omega
        rw [List.flatMap_cons,←this]
        unfold esc
        rw [hn',if_neg (by omega),if_pos (by omega),show (16*a+e)/16=a by omega,show (16*a+e)%16=e by omega,ec,←ea,←ee,show d=120 from Qg0 h4]
        rfl
      ·cases h
     ·cases h
    ·cases h
  ·rename_i h2
   simp only [Option.map_eq_some_iff] at h
   obtain ⟨b',hb,rfl⟩:=h
   have:=QkE n r b' (by simp at hn;omega) hb
   rw [List.flatMap_cons,←this]
   unfold esc
   rw [if_neg (by omega),if_neg (by omega)];rfl
theorem Qth:∀b:Bs,b.length≤(b.flatMap esc).length∧(b.flatMap esc).length≤4*b.length
 | []=>by simp
 |c::b=>by
  have:=Qth b
  have:=QyV c
  rw [List.flatMap_cons,List.length_append,List.length_cons];omega
theorem QyN (b:Bs):2+b.length≤(quo b).length∧(quo b).length≤4*b.length+2:=by
 have:=Qth b
 simp only [quo,List.length_cons,List.length_append,List.length_nil];omega
def unq (s:Bs):Option Bs:=if 2≤s.length∧s.head?=some 34∧s.getLast?=some 34 then unqI ((s.take (s.length-1)).drop 1) else none
theorem QxX {s b:Bs} (h:unq s=some b):s=quo b:=by
 unfold unq at h
 split at h
 ·rename_i hc
  have:=QkE _ _ _ (Nat.le_refl _) h
  unfold quo
  rw [←this]
  obtain ⟨h1,h2,h3⟩:=hc
  match s,h1,h2,h3 with
  |c::r,h1,h2,h3=>
   simp only [List.head?_cons,Option.some.injEq] at h2
   subst h2
   have hr:r≠ []:=by intro q;subst q;simp at h1
   have h4:r.getLast?=some 34:=by
    rw [List.getLast?_cons] at h3
    cases hx:r.getLast? with
    |none=>simp at hx;exact (hr hx).elim
    |some x=>rw [hx] at h3;simpa using h3
   congr 1
   simp only [List.length_cons,Nat.add_sub_cancel]
   rw [show r.length=(r.length-1)+1 by have:=List.length_pos_iff.2 hr;omega,List.take_succ_cons,List.drop_succ_cons,List.drop_zero,←List.dropLast_eq_take]
   rw [List.getLast?_eq_some_getLast hr,Option.some.injEq] at h4
   rw [←h4,List.dropLast_concat_getLast]
 ·cases h
def isPl (c:UInt8):Bool:=decide (32<c.toNat)&&decide (c.toNat≤126)&& !(c.toNat==34)
def QjF (s:Bs):Bool:= !s.isEmpty&&s.all isPl
def cutB:Bs→Bs→Bool→Bool→Option (List Bs)
 | [],cur,_,_=>some [cur]
 |c::r,cur,q,e=>
  if c.toNat<32∨126<c.toNat then none
  else if e then cutB r (cur++ [c]) q false
  else if q∧c.toNat=92 then cutB r (cur++ [c]) q true
  else if c.toNat=34 then cutB r (cur++ [c]) (!q) false
  else if c.toNat=32∧ !q then (cutB r [] false false).map (cur:: ·)
  else cutB r (cur++ [c]) q false
theorem Qm2:∀{s cur:Bs} {q e:Bool} {ps:List Bs},cutB s cur q e=some ps→ps≠ []∧Lib.join ps [32]=cur++s
 | [],cur,q,e,ps,h=>by
  simp only [cutB,Option.some.injEq] at h
  subst h
  simp [Lib.join]
 |c::r,cur,q,e,ps,h=>by
  rw [cutB] at h
  have step:∀{q e},cutB r (cur++ [c]) q e=some ps→ps≠ []∧Lib.join ps [32]=cur++c::r:=by
   intro q e h
   have:=Qm2 h
   simpa using this
  split at h
  ·cases h
  split at h
  ·exact step h
  split at h
  ·exact step h
  split at h
  ·exact step h
  split at h
  ·rename_i hc
   simp only [Option.map_eq_some_iff] at h
   obtain ⟨ps',h,rfl⟩:=h
   obtain ⟨h1,h2⟩:=Qm2 h
   refine ⟨by simp, ?_⟩
   have ec:c=32:=Qg0 hc.1
   cases ps' with
   |nil=>exact (h1 rfl).elim
   |cons y ys=>
    have:Lib.join (cur::y::ys) [32]=cur++32::Lib.join (y::ys) [32]:=by simp [Lib.join,List.intercalate]
    rw [this,h2,ec];rfl
  ·exact step h
def Qkm (p:Bs):Option Bs:=if QjF p then some p else match unq p with
 |some t=>if QjF t then none else some t
 |none=>none
def Qtu (s:Bs):Option (List Bs):=if s= [] then some [] else (cutB s [] false false).bind fun ps=>ps.mapM Qkm
end Go.Proofs
