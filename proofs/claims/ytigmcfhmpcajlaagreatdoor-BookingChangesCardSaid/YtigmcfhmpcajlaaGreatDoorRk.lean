/- Rules for loops over strings and lists; texts and lists of texts as data. Conditions: as each says. -/
import Derived.Test.YtigmcfhmpcajlaaGreatDoorRet
import Derived.Test.YtigmcfhmpcajlaaGreatDoorPn
set_option linter.unusedSimpArgs false
namespace Go.Proofs
open Go.Am
theorem beqT {a b:Int} (h:a=b):(a==b)=true:=by simpa using h
theorem beqF {a b:Int} (h:a≠b):(a==b)=false:=by simpa using h
theorem bneT {a b:Int} (h:a≠b):(a !=b)=true:=by simpa using h
theorem bneF {a b:Int} (h:a=b):(a !=b)=false:=by simpa using h
theorem decT {p:Prop} [Decidable p] (h:p):decide p=true:=decide_eq_true h
theorem decF {p:Prop} [Decidable p] (h:¬p):decide p=false:=decide_eq_false h
def bcv (s:Bs):List (List CV):=s.map fun c=> [CV.int .u8 c.toNat]
theorem QyO (s:Bs):(bcv s).length=s.length:=by simp [bcv]
theorem Qx3 (c:UInt8) (s:Bs):bcv (c::s)= [CV.int .u8 c.toNat]::bcv s:=rfl
theorem QoS:∀s:Bs,bytesOf (bcv s)=some s
 | []=>rfl
 |c::s=>by
  have hc:c.toNat<256:=c.toNat_lt
  rw [Qx3,bytesOf,if_pos (by omega),QoS s]
  simp
def scv (l:List Bs):List (List CV):=l.map fun s=> [CV.str s]
theorem QhL (l:List Bs):(scv l).length=l.length:=by simp [scv]
theorem Qze {l:List Bs} {i:Nat} {s:Bs} (h:l[i]?=some s):(scv l)[i]?=some [.str s]:=by simp [scv,h]
theorem QqG (s:Bs):CV.isCell (.str s)=true:=rfl
theorem QvV (k:IntKind) (n:Int):CV.isCell (.int k n)=true:=rfl
theorem Qme {s:Bs} (hs:s.length≤281474976710656) {P:Bs→Bs→Nat→Nat→Prop} (nil:Evt fun n=>∀k,P s [] n (k+1))
  (cons:∀p c t,p++c::t=s→(p.length:Int)<(s.length:Int)→atS s (p.length:Int)=some c→IntKind.wrap .i64 ((p.length:Int)+1)=((p++ [c]).length:Int)→
   (Evt fun n=>∀k,t.length<k→P (p++ [c]) t n k)→Evt fun n=>∀k,t.length<k→P p (c::t) n (k+1)):
  ∀t p,p++t=s→Evt fun n=>∀k,t.length<k→P p t n k
 | [],p,h=>by
  have:p=s:=by simpa using h
  subst this
  refine nil.mono fun n hn k hk=> ?_
  obtain ⟨k,rfl⟩:∃m,k=m+1:=⟨k-1,by simp at hk;omega⟩
  exact hn k
 |c::t,p,h=>by
  have hl:s.length=p.length+(t.length+1):=by rw [←h];simp
  refine (cons p c t h (by omega) (QiA ?_) (by rw [QaD (by omega) (by omega)];simp) (Qme hs nil cons t (p++ [c]) (by rw [←h];simp))).mono fun n hn k hk=> ?_
  ·rw [←h];simp
  ·obtain ⟨k,rfl⟩:∃m,k=m+1:=⟨k-1,by simp at hk;omega⟩
   exact hn k (by simp at hk;omega)
theorem Qd8 {α:Type} {enc:α→List CV} {l:List α} (hl:l.length≤281474976710656) {P:List α→List α→Nat→Nat→Prop} (nil:Evt fun n=>∀k,P l [] n (k+1))
  (cons:∀p x t,p++x::t=l→(p.length:Int)<((l.map enc).length:Int)→atL (l.map enc) (p.length:Int)=some (enc x)→IntKind.wrap .i64 ((p.length:Int)+1)=((p++ [x]).length:Int)→
   (Evt fun n=>∀k,t.length<k→P (p++ [x]) t n k)→Evt fun n=>∀k,t.length<k→P p (x::t) n (k+1)):
  ∀t p,p++t=l→Evt fun n=>∀k,t.length<k→P p t n k
 | [],p,h=>by
  have:p=l:=by simpa using h
  subst this
  refine nil.mono fun n hn k hk=> ?_
  obtain ⟨k,rfl⟩:∃m,k=m+1:=⟨k-1,by simp at hk;omega⟩
  exact hn k
 |x::t,p,h=>by
  have hll:l.length=p.length+(t.length+1):=by rw [←h];simp
  refine (cons p x t h (by simp;omega) (Qa9 ?_) (by rw [QaD (by omega) (by omega)];simp) (Qd8 hl nil cons t (p++ [x]) (by rw [←h];simp))).mono fun n hn k hk=> ?_
  ·rw [←h];simp
  ·obtain ⟨k,rfl⟩:∃m,k=m+1:=⟨k-1,by simp at hk;omega⟩
   exact hn k (by simp at hk;omega)
end Go.Proofs
