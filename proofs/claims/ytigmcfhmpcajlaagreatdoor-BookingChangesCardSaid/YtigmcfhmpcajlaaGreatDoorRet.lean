/- Functions that answer where there is fuel enough; rules for stepping through their equations. Conditions: as each says. -/
import Derived.Test.YtigmcfhmpcajlaaGreatDoorEv
namespace Go.Proofs
open Go.Am
def Evt (P:Nat→Prop):Prop:=∃N,∀n,N≤n→P n
theorem Evt.all {P:Nat→Prop} (h:∀n,P n):Evt P:=⟨0,fun n _=>h n⟩
theorem Evt.from {P:Nat→Prop} (N:Nat) (h:∀n,P (n+N)):Evt P:=⟨N,fun n hn=>by
 obtain ⟨m,rfl⟩:∃m,n=m+N:=⟨n-N,by omega⟩
 exact h m⟩
theorem Evt.ge (N:Nat):Evt fun n=>N≤n:=⟨N,fun _ h=>h⟩
theorem Evt.mono {P Q:Nat→Prop} (h:Evt P) (hpq:∀n,P n→Q n):Evt Q:=h.elim fun N hN=>⟨N,fun n hn=>hpq n (hN n hn)⟩
theorem Evt.and {P Q:Nat→Prop} (h:Evt P) (g:Evt Q):Evt fun n=>P n∧Q n:=by
 obtain ⟨N,hN⟩:=h
 obtain ⟨M,hM⟩:=g
 exact ⟨N+M,fun n hn=>⟨hN n (by omega),hM n (by omega)⟩⟩
theorem Evt.imp2 {P Q R:Nat→Prop} (h:Evt P) (g:Evt Q) (k:∀n,P n→Q n→R n):Evt R:=(h.and g).mono fun n ⟨a,b⟩=>k n a b
theorem Evt.diag {P:Nat→Nat→Prop} {m:Nat} (h:Evt fun n=>∀k,m<k→P n k):Evt fun n=>P n n:=
 (h.and (Evt.ge (m+1))).mono fun n ⟨h,hn⟩=>h n (by omega)
theorem Evt.fin {α:Type} {P:α→Nat→Prop}:∀(l:List α),(∀x∈l,Evt (P x))→Evt fun n=>∀x∈l,P x n
 | [],_=>⟨0,fun _ _ x hx=>by cases hx⟩
 |a::l,h=>((h a (List.mem_cons_self ..)).and (Evt.fin l fun x hx=>h x (List.mem_cons_of_mem _ hx))).mono fun n ⟨h1,h2⟩ x hx=>by
  rcases List.mem_cons.1 hx with rfl|hx
  ·exact h1
  ·exact h2 x hx
def Ret (lb:Nat) (f:FuncId) (args:List CV) (r:CV):Prop:=Evt fun n=>C lb n f args=some r
theorem Ret.mono {lb:Nat} {f:FuncId} {args:List CV} {r:CV} {Q:Nat→Prop} (h:Ret lb f args r) (k:∀n,C lb n f args=some r→Q n):Evt Q:=Evt.mono h k
theorem Ret.and {lb:Nat} {f:FuncId} {args:List CV} {r:CV} {Q:Nat→Prop} (h:Ret lb f args r) (k:Evt Q):Evt fun n=>C lb n f args=some r∧Q n:=Evt.and h k
theorem Ret.top {lb:Nat} {f:FuncId} {args:List CV} {r:CV} (hL:L lb f=none) (h:Evt fun n=>top lb n f args=some r):Ret lb f args r:=by
 obtain ⟨N,hN⟩:=h
 refine ⟨N+1,fun n hn=> ?_⟩
 obtain ⟨m,rfl⟩:∃m,n=m+1:=⟨n-1,by omega⟩
 rw [QpD lb m f args hL]
 exact hN m (by omega)
theorem Ret.lib {lb:Nat} {f:FuncId} {args:List CV} {r:CV} {s:List CV→Option CV} (hL:L lb f=some s) (h:s args=some r):Ret lb f args r:=
 Evt.from 1 fun n=>by rw [QAp lb n f args hL,h]
theorem Ret.one {lb:Nat} {f:FuncId} {args:List CV} {r:CV} (h:Ret lb f args r):∃n,C lb n f args=some r:=h.elim fun N hN=>⟨N,hN N (Nat.le_refl _)⟩
theorem Evt.call {lb:Nat} {g:FuncId} {a:List CV} {v:CV} {r:Option CV} {k:Nat→CV→Option CV} (h:Ret lb g a v) (hk:Evt fun n=>k n v=r):Evt fun n=>optO (C lb n g a) (k n)=r:=
 h.imp2 hk fun n h1 h2=>by rw [h1];exact h2
theorem Evt.cond {b:Bool} {r:Option CV} {t e:Nat→Option CV} (ht:b=true→Evt fun n=>t n=r) (he:b=false→Evt fun n=>e n=r):Evt fun n=>(bif b then t n else e n)=r:=by
 cases b
 ·exact he rfl
 ·exact ht rfl
theorem Evt.chk {b:Bool} {r:Option CV} {t:Nat→Option CV} (hb:b=true) (ht:Evt fun n=>t n=r):Evt fun n=>chkO b (t n)=r:=by
 subst hb;exact ht
theorem Evt.of {p:Prop} (h:p):Evt fun _=>p:=⟨0,fun _ _=>h⟩
theorem Evt.done {r:Option CV}:Evt fun _=>r=r:=⟨0,fun _ _=>rfl⟩
theorem Evt.eq {P Q:Nat→Prop} (h:∀n,P n=Q n) (hq:Evt Q):Evt P:=hq.mono fun n hn=>(h n).mpr hn
theorem Qa1 {α β:Type} (x:α) (k:α→Option β):optO (some x) k=k x:=rfl
theorem Qd0 {β:Type} (k:Option β):chkO true k=k:=rfl
theorem QaE (k:IntKind) (n:Int):CV.asI k (.int k n)=some n:=by simp [CV.asI]
theorem QaP (b:Bool):CV.asB (.bool b)=some b:=rfl
theorem Qwh (s:List UInt8):CV.asS (.str s)=some s:=rfl
theorem Qmc (b:Bool) (l:List (List CV)):CV.asL (.list b l)=some (b,l):=rfl
theorem QlP (c:List CV):CV.asT (.tup c)=some c:=rfl
theorem get0 {α:Type} (x:α) (l:List α):(x::l)[0]?=some x:=rfl
theorem get1 {α:Type} (x y:α) (l:List α):(x::y::l)[1]?=some y:=rfl
theorem stO {α β:Type} {o:Option α} {k:α→Option β} {r:Option β} (x:α) (h1:o=some x) (h2:k x=r):optO o k=r:=by rw [h1];exact h2
theorem stC {β:Type} {b:Bool} {k r:Option β} (h1:b=true) (h2:k=r):chkO b k=r:=by rw [h1];exact h2
theorem stT {β:Type} {b:Bool} {t e r:Option β} (h1:b=true) (h2:t=r):(bif b then t else e)=r:=by rw [h1];exact h2
theorem stF {β:Type} {b:Bool} {t e r:Option β} (h1:b=false) (h2:e=r):(bif b then t else e)=r:=by rw [h1];exact h2
theorem QaD {x:Int} (h0:-9223372036854775808≤x) (h1:x≤9223372036854775807):IntKind.wrap .i64 x=x:=by
 unfold IntKind.wrap
 simp only [IntKind.bits,IntKind.signed]
 simp
 omega
theorem Qa9 {l:List (List CV)} {i:Nat} {c:List CV} (h:l[i]?=some c):atL l (i:Int)=some c:=by
 unfold atL
 rw [if_pos (Int.natCast_nonneg i),Int.toNat_natCast]
 exact h
theorem QiA {s:List UInt8} {i:Nat} {c:UInt8} (h:s[i]?=some c):atS s (i:Int)=some c:=by
 unfold atS
 rw [if_pos (Int.natCast_nonneg i),Int.toNat_natCast]
 exact h
theorem Qdj {n b:Nat} (h:n*b≤140737488355328):room n b=true:=by simpa [room] using h
end Go.Proofs
