/- Chapter 20 on plain data: conditions, their sizes, levels and errors. Conditions: none; definitions and plain laws. -/
import Derived.Test.YtbdclhadjcfadaaGreatDoorRk
import Derived.Test.YtbdclhadjcfadaaGreatDoorDf
import Derived.Test.YtbdclhadjcfadaaGreatDoorHa
import Derived.Test.YtbdclhadjcfadaaGreatDoorHB
import Derived.Test.YtbdclhadjcfadaaGreatDoorRA
import Derived.Test.YtbdclhadjcfadaaGreatDoorHb
import Derived.Test.YtbdclhadjcfadaaGreatDoorKA
set_option linter.unusedVariables false
set_option linter.unusedSimpArgs false
namespace Go.Proofs
open Go.Am
inductive Cd where
 | mk (k:Int) (ln:Bool) (l:List Cd) (a b fr to days:Int) (tn:Bool) (t:List Bs)
namespace Cd
def k:Cd → Int | mk x .. => x
def ln:Cd → Bool | mk _ x .. => x
def l:Cd → List Cd | mk _ _ x .. => x
def a:Cd → Int | mk _ _ _ x .. => x
def b:Cd → Int | mk _ _ _ _ x .. => x
def fr:Cd → Int | mk _ _ _ _ _ x .. => x
def to:Cd → Int | mk _ _ _ _ _ _ x .. => x
def days:Cd → Int | mk _ _ _ _ _ _ _ x .. => x
def tn:Cd → Bool | mk _ _ _ _ _ _ _ _ x _ => x
def t:Cd → List Bs | mk _ _ _ _ _ _ _ _ _ x => x
end Cd
theorem Cd.ind {P:Cd → Prop} (h:∀ c:Cd,(∀ x ∈ c.l,P x) → P c) (c:Cd):P c :=
 Cd.rec (motive_1 := P) (motive_2 := fun l => ∀ x ∈ l,P x) (fun k ln l a b fr to days tn t ih => h (.mk k ln l a b fr to days tn t) ih) (fun x hx => by cases hx)
  (fun y r hy hr x hx => by
   rcases List.mem_cons.1 hx with rfl | hx
   ·exact hy
   ·exact hr x hx) c
mutual
def ccv:Cd → List CV
 | .mk k ln l a b fr to days tn t => [.int .i64 k, .list ln (ccvs l), .int .i64 a, .int .i64 b, .int .i64 fr, .int .i64 to, .int .i64 days, .list tn (scv t)]
def ccvs:List Cd → List (List CV)
 | [] => []
 | c :: r => ccv c :: ccvs r
end
theorem QuY:∀ l:List Cd,ccvs l = l.map ccv
 | [] => rfl
 | c :: r => by rw [ccvs,QuY r]; rfl
theorem Qhe (c:Cd):ccv c = [.int .i64 c.k, .list c.ln (c.l.map ccv), .int .i64 c.a, .int .i64 c.b, .int .i64 c.fr, .int .i64 c.to, .int .i64 c.days, .list c.tn (scv c.t)] := by
 cases c with
 | mk k ln l a b fr to days tn t => rw [ccv,QuY]; rfl
abbrev w64 (x:Int):Int := IntKind.wrap .i64 x
mutual
def levC:Cd → Int
 | .mk _ _ l .. => w64 (levs 0 l + 1)
def levs:Int → List Cd → Int
 | n,[] => n
 | n,c :: r => levs (if levC c > n then levC c else n) r
end
mutual
def sizC:Cd → Int
 | .mk _ _ l .. => sizs 1 l
def sizs:Int → List Cd → Int
 | n,[] => n
 | n,c :: r => sizs (w64 (n + sizC c)) r
end
theorem QlY (c:Cd):levC c = w64 (levs 0 c.l + 1) := by cases c; rw [levC]; rfl
theorem Qjx (c:Cd):sizC c = sizs 1 c.l := by cases c; rw [sizC]; rfl
mutual
def tsz:Cd → Nat
 | .mk _ _ l .. => 1 + tszs l
def tszs:List Cd → Nat
 | [] => 0
 | c :: r => tsz c + tszs r
end
theorem Qd9 (c:Cd):tsz c = 1 + tszs c.l := by cases c; rw [tsz]; rfl
def QnP (t:List Bs):Int := ((t.take 200).map fun s => (s.length:Int)).sum
mutual
def lgC:Cd → Bool
 | .mk k ln l a b fr to days tn t => if sizC (.mk k ln l a b fr to days tn t) > 300 then true else if lgs l then true else decide ((t.length:Int) + QnP t > 400)
def lgs:List Cd → Bool
 | [] => false
 | c :: r => if lgC c then true else lgs r
end
theorem QqA (c:Cd):lgC c = if sizC c > 300 then true else if lgs c.l then true else decide ((c.t.length:Int) + QnP c.t > 400) := by cases c; rw [lgC]; rfl
mutual
def Fits:Cd → Prop
 | .mk k ln l a b fr to days tn t => l.length ≤ 281474976710656 ∧ Qra l ∧ t.length ≤ 281474976710656 ∧ ∀ s ∈ t,s.length ≤ 281474976710656
def Qra:List Cd → Prop
 | [] => True
 | c :: r => Fits c ∧ Qra r
end
theorem QsP:∀ l:List Cd,Qra l ↔ ∀ x ∈ l,Fits x
 | [] => by simp [Qra]
 | c :: r => by rw [Qra,QsP r]; simp
theorem Qju (c:Cd):Fits c ↔ c.l.length ≤ 281474976710656 ∧ (∀ x ∈ c.l,Fits x) ∧ c.t.length ≤ 281474976710656 ∧ ∀ s ∈ c.t,s.length ≤ 281474976710656 := by
 cases c
 rw [Fits,QsP]
 rfl
theorem Qnu:∀ {l:List Cd},lgs l = false → ∀ x ∈ l,lgC x = false
 | [],_,_,h => by cases h
 | c :: r,h,x,hx => by
  rw [lgs] at h
  split at h
  ·cases h
  ·rename_i q
   rcases List.mem_cons.1 hx with rfl | hx
   ·simpa using q
   ·exact Qnu h x hx
theorem Qu8:∀ (l:List Cd) (n:Int) (B:Nat),0 ≤ n → (∀ x ∈ l,sizC x = tsz x ∧ tsz x ≤ 300) → n + 300 * l.length ≤ 9223372036854775807 → sizs n l = n + tszs l
 | [],n,B,_,_,_ => by rw [sizs,tszs]; simp
 | c :: r,n,B,h0,h,hn => by
  obtain ⟨h1,h2⟩ := h c (by simp)
  simp only [List.length_cons] at hn
  rw [sizs,tszs,h1,w64,Qad (by omega) (by omega),Qu8 r (n + tsz c) B (by omega) (fun x hx => h x (by simp [hx])) (by omega)]
  omega
theorem QmF:∀ c:Cd,Fits c → lgC c = false → sizC c = tsz c ∧ tsz c ≤ 300 := by
 refine Cd.ind fun c ih hf h => ?_
 obtain ⟨f1,f2,_,_⟩ := (Qju c).1 hf
 rw [QqA] at h
 split at h
 ·cases h
 ·rename_i q1
  split at h
  ·cases h
  ·rename_i q2
   have hl := Qnu (by simpa using q2)
   have := Qu8 c.l 1 0 (by omega) (fun x hx => ih x hx (f2 x hx) (hl x hx)) (by omega)
   have e1:sizC c = (tsz c:Int) := by rw [Qjx,this,Qd9]; omega
   exact ⟨e1,by omega⟩
theorem QzG {c:Cd} (h:lgC c = false):∀ x ∈ c.l,lgC x = false := by
 rw [QqA] at h
 split at h
 ·cases h
 ·split at h
  ·cases h
  ·rename_i q
   exact Qnu (by simpa using q)
theorem Qzk {c:Cd} (h:lgC c = false):(c.t.length:Int) + QnP c.t ≤ 400 := by
 rw [QqA] at h
 split at h
 ·cases h
 ·split at h
  ·cases h
  ·simpa using h
theorem Qj3:∀ {l:List Cd} {x:Cd},x ∈ l → tsz x ≤ tszs l
 | [],_,h => by cases h
 | c :: r,x,h => by
  rw [tszs]
  rcases List.mem_cons.1 h with rfl | h
  ·omega
  ·have := Qj3 h
   omega
theorem QBW (c:Cd):1 ≤ tsz c := by rw [Qd9]; omega
theorem QjA:∀ l:List Cd,l.length ≤ tszs l
 | [] => by simp [tszs]
 | c :: r => by
  have := QjA r
  have := QBW c
  rw [tszs,List.length_cons]
  omega
end Go.Proofs
set_option linter.unusedVariables false
set_option linter.unusedSimpArgs false
namespace Go.Proofs
open Go.Am
variable (lb:Nat)
abbrev cdv (c:Cd):CV := .agg [.int .i64 c.k, .list c.ln (c.l.map ccv), .int .i64 c.a, .int .i64 c.b, .int .i64 c.fr, .int .i64 c.to, .int .i64 c.days, .list c.tn (scv c.t)]
theorem QfB {l:List Cd} {i:Nat} {x:Cd} (h:l[i]? = some x):atL (l.map ccv) (i:Int) = some [.int .i64 x.k, .list x.ln (x.l.map ccv), .int .i64 x.a, .int .i64 x.b, .int .i64 x.fr, .int .i64 x.to, .int .i64 x.days, .list x.tn (scv x.t)] := by
 rw [← Qhe]
 exact QlE (by simp [h])
theorem Qg9 {f:FuncId} {v:Cd → CV} {G:Cd → Prop} (hG:∀ c,G c → ∀ x ∈ c.l,G x) (h:∀ c,G c → (Evt fun n => ∀ x ∈ c.l,C lb n f [cdv x] = some (v x)) → Ret lb f [cdv c] (v c)):∀ c,G c → Ret lb f [cdv c] (v c) :=
 Cd.ind fun c ih hg => h c hg (Evt.fin _ fun x hx => ih x hx (hG c hg x hx))
theorem Qgx:∀ c:Cd,Fits c → ∀ x ∈ c.l,Fits x := fun c h => ((Qju c).1 h).2.1
theorem QjI {c:Cd} (h:Fits c):c.l.length ≤ 281474976710656 := ((Qju c).1 h).1
theorem Qiz {c:Cd} (h:Fits c):c.t.length ≤ 281474976710656 ∧ ∀ s ∈ c.t,s.length ≤ 281474976710656 := ((Qju c).1 h).2.2
theorem QrD:∀ c:Cd,Fits c → Ret lb Qbg [cdv c] (.int .i64 (levC c)) := by
 refine Qg9 lb Qgx fun c hf hs => .top rfl (.eq (fun n => by rw [Qsk]) ?_)
 have hl := QjI hf
 have hh:∀ n,(∀ x ∈ c.l,C lb n Qbg [cdv x] = some (.int .i64 (levC x))) → ∀ t p,p ++ t = c.l → ∀ k,t.length < k → ∀ m,cond_levels_L1 lb n k c.k c.ln (c.l.map ccv) c.a c.b c.fr c.to c.days c.tn (scv c.t) m (p.length:Int) = some (.int .i64 (w64 (levs m t + 1))) := by
  intro n hs t
  induction t with
  | nil =>
   intro p hp k hk m
   obtain ⟨k,rfl⟩ : ∃ j,k = j + 1 := ⟨k - 1,by simp at hk; omega⟩
   have hpl:p = c.l := by simpa using hp
   rw [Qht]
   refine stF (decF (by rw [hpl,List.length_map]; omega)) ?_
   rw [Qo3,levs]
  | cons x t ih =>
   intro p hp k hk m
   obtain ⟨k,rfl⟩ : ∃ j,k = j + 1 := ⟨k - 1,by simp at hk; omega⟩
   have hpl:c.l.length = p.length + (t.length + 1) := by rw [← hp]; simp
   have hat := QfB (l := c.l) (i := p.length) (x := x) (by rw [← hp]; simp)
   rw [Qht]
   refine stT (decT (by rw [List.length_map]; omega)) (stO _ hat (stC rfl (stO _ rfl (stO _ rfl (stO _ rfl (stO _ rfl (stO _ rfl (stO _ rfl (stO _ rfl (stO _ rfl (stO _ (hs x (by rw [← hp]; simp)) (stO _ (Qai ..) ?_))))))))))))
   rw [Qad (by omega) (by omega),show (p.length:Int) + 1 = ((p ++ [x]).length:Int) by simp,levs]
   exact ih (p ++ [x]) (by rw [← hp]; simp) k (by simp at hk; omega) _
 rw [QlY]
 exact Evt.imp2 hs (Evt.ge (c.l.length + 1)) fun n a hn => hh n a c.l [] rfl n (by omega) 0
theorem Qr3:∀ c:Cd,Fits c → Ret lb Qbp [cdv c] (.int .i64 (levC c)) := by
 refine Qg9 lb Qgx fun c hf hs => .top rfl (.eq (fun n => by rw [QtI]) ?_)
 have hl := QjI hf
 have hh:∀ n,(∀ x ∈ c.l,C lb n Qbp [cdv x] = some (.int .i64 (levC x))) → ∀ t p,p ++ t = c.l → ∀ k,t.length < k → ∀ m,Qga lb n k c.k c.ln (c.l.map ccv) c.a c.b c.fr c.to c.days c.tn (scv c.t) m (p.length:Int) = some (.int .i64 (w64 (levs m t + 1))) := by
  intro n hs t
  induction t with
  | nil =>
   intro p hp k hk m
   obtain ⟨k,rfl⟩ : ∃ j,k = j + 1 := ⟨k - 1,by simp at hk; omega⟩
   have hpl:p = c.l := by simpa using hp
   rw [Qiw]
   refine stF (decF (by rw [hpl,List.length_map]; omega)) ?_
   rw [QpS,levs]
  | cons x t ih =>
   intro p hp k hk m
   obtain ⟨k,rfl⟩ : ∃ j,k = j + 1 := ⟨k - 1,by simp at hk; omega⟩
   have hpl:c.l.length = p.length + (t.length + 1) := by rw [← hp]; simp
   have hat := QfB (l := c.l) (i := p.length) (x := x) (by rw [← hp]; simp)
   rw [Qiw]
   refine stT (decT (by rw [List.length_map]; omega)) (stO _ hat (stC rfl (stO _ rfl (stO _ rfl (stO _ rfl (stO _ rfl (stO _ rfl (stO _ rfl (stO _ rfl (stO _ rfl (stO _ (hs x (by rw [← hp]; simp)) (stO _ (Qai ..) ?_))))))))))))
   rw [Qad (by omega) (by omega),show (p.length:Int) + 1 = ((p ++ [x]).length:Int) by simp,levs]
   exact ih (p ++ [x]) (by rw [← hp]; simp) k (by simp at hk; omega) _
 rw [QlY]
 exact Evt.imp2 hs (Evt.ge (c.l.length + 1)) fun n a hn => hh n a c.l [] rfl n (by omega) 0
theorem Quc:∀ c:Cd,Fits c → Ret lb QbF [cdv c] (.int .i64 (sizC c)) := by
 refine Qg9 lb Qgx fun c hf hs => .top rfl (.eq (fun n => by rw [QvO]) ?_)
 have hl := QjI hf
 have hh:∀ n,(∀ x ∈ c.l,C lb n QbF [cdv x] = some (.int .i64 (sizC x))) → ∀ t p,p ++ t = c.l → ∀ k,t.length < k → ∀ m,Qg4 lb n k c.k c.ln (c.l.map ccv) c.a c.b c.fr c.to c.days c.tn (scv c.t) m (p.length:Int) = some (.int .i64 (sizs m t)) := by
  intro n hs t
  induction t with
  | nil =>
   intro p hp k hk m
   obtain ⟨k,rfl⟩ : ∃ j,k = j + 1 := ⟨k - 1,by simp at hk; omega⟩
   have hpl:p = c.l := by simpa using hp
   rw [Qi4]
   refine stF (decF (by rw [hpl,List.length_map]; omega)) ?_
   rw [QrK,sizs]
  | cons x t ih =>
   intro p hp k hk m
   obtain ⟨k,rfl⟩ : ∃ j,k = j + 1 := ⟨k - 1,by simp at hk; omega⟩
   have hpl:c.l.length = p.length + (t.length + 1) := by rw [← hp]; simp
   have hat := QfB (l := c.l) (i := p.length) (x := x) (by rw [← hp]; simp)
   rw [Qi4]
   refine stT (decT (by rw [List.length_map]; omega)) (stO _ hat (stC rfl (stO _ rfl (stO _ rfl (stO _ rfl (stO _ rfl (stO _ rfl (stO _ rfl (stO _ rfl (stO _ rfl (stO _ (hs x (by rw [← hp]; simp)) (stO _ (Qai ..) ?_))))))))))))
   rw [Qad (x := (p.length:Int) + 1) (by omega) (by omega),show (p.length:Int) + 1 = ((p ++ [x]).length:Int) by simp,sizs]
   exact ih (p ++ [x]) (by rw [← hp]; simp) k (by simp at hk; omega) _
 rw [Qjx]
 exact Evt.imp2 hs (Evt.ge (c.l.length + 1)) fun n a hn => hh n a c.l [] rfl n (by omega) 1
theorem Qnm:∀ c:Cd,Fits c → Ret lb QbI [cdv c] (.int .i64 (sizC c)) := by
 refine Qg9 lb Qgx fun c hf hs => .top rfl (.eq (fun n => by rw [QwG]) ?_)
 have hl := QjI hf
 have hh:∀ n,(∀ x ∈ c.l,C lb n QbI [cdv x] = some (.int .i64 (sizC x))) → ∀ t p,p ++ t = c.l → ∀ k,t.length < k → ∀ m,Qii lb n k c.k c.ln (c.l.map ccv) c.a c.b c.fr c.to c.days c.tn (scv c.t) m (p.length:Int) = some (.int .i64 (sizs m t)) := by
  intro n hs t
  induction t with
  | nil =>
   intro p hp k hk m
   obtain ⟨k,rfl⟩ : ∃ j,k = j + 1 := ⟨k - 1,by simp at hk; omega⟩
   have hpl:p = c.l := by simpa using hp
   rw [Qkb]
   refine stF (decF (by rw [hpl,List.length_map]; omega)) ?_
   rw [Qsd,sizs]
  | cons x t ih =>
   intro p hp k hk m
   obtain ⟨k,rfl⟩ : ∃ j,k = j + 1 := ⟨k - 1,by simp at hk; omega⟩
   have hpl:c.l.length = p.length + (t.length + 1) := by rw [← hp]; simp
   have hat := QfB (l := c.l) (i := p.length) (x := x) (by rw [← hp]; simp)
   rw [Qkb]
   refine stT (decT (by rw [List.length_map]; omega)) (stO _ hat (stC rfl (stO _ rfl (stO _ rfl (stO _ rfl (stO _ rfl (stO _ rfl (stO _ rfl (stO _ rfl (stO _ rfl (stO _ (hs x (by rw [← hp]; simp)) (stO _ (Qai ..) ?_))))))))))))
   rw [Qad (x := (p.length:Int) + 1) (by omega) (by omega),show (p.length:Int) + 1 = ((p ++ [x]).length:Int) by simp,sizs]
   exact ih (p ++ [x]) (by rw [← hp]; simp) k (by simp at hk; omega) _
 rw [Qjx]
 exact Evt.imp2 hs (Evt.ge (c.l.length + 1)) fun n a hn => hh n a c.l [] rfl n (by omega) 1
theorem QlF {t:List Bs} {i:Nat} {s:Bs} (h:t[i]? = some s):atL (scv t) (i:Int) = some [.str s] := QlE (Qoq h)
def Qf0 (t:List Bs):Int := (t.map fun s => (s.length:Int)).sum
theorem QzL (t:List Bs):0 ≤ Qf0 t := by
 induction t with
 | nil => simp [Qf0]
 | cons x t ih => simp only [Qf0,List.map_cons,List.sum_cons] at ih ⊢; omega
theorem QwC (c:Cd) (hf:Fits c) (i51:Int) (n:Nat):∀ (r:Nat) (t p:List Bs),p ++ t = c.t → p.length + r = 200 → ∀ k,r < k → ∀ m:Int,0 ≤ m → m ≤ 281474976710656 * (p.length + 2) →
  Qhm lb n k c.k c.ln (c.l.map ccv) c.a c.b c.fr c.to c.days c.tn (scv c.t) i51 m (p.length:Int) = some (.bool (decide (m + Qf0 (t.take r) > 400))) := by
 obtain ⟨f1,f2⟩ := Qiz hf
 intro r
 induction r with
 | zero =>
  intro t p hp hr k hk m h0 h1
  obtain ⟨k,rfl⟩ : ∃ j,k = j + 1 := ⟨k - 1,by omega⟩
  rw [Qi0]
  have e:Qf0 (t.take 0) = 0 := rfl
  rw [e,Int.add_zero]
  by_cases hlt:(p.length:Int) < ((scv c.t).length:Int)
  ·refine stT (decT hlt) (stF (decF (by omega)) ?_)
   rw [Qhd]
  ·refine stF (decF hlt) ?_
   rw [Qhd]
 | succ r ih =>
  intro t p hp hr k hk m h0 h1
  obtain ⟨k,rfl⟩ : ∃ j,k = j + 1 := ⟨k - 1,by omega⟩
  rw [Qi0]
  cases t with
  | nil =>
   have hpl:p = c.t := by simpa using hp
   refine stF (decF (by rw [hpl,Qas]; omega)) ?_
   rw [Qhd]
   simp [Qf0]
  | cons s t =>
   have hpl:c.t.length = p.length + (t.length + 1) := by rw [← hp]; simp
   have hs := f2 s (by rw [← hp]; simp)
   refine stT (decT (by rw [Qas]; omega)) (stT (decT (by omega)) (stO _ (QlF (s := s) (by rw [← hp]; simp)) (stC rfl (stO _ rfl (stO _ rfl ?_)))))
   rw [Qad (x := m + (s.length:Int)) (by omega) (by omega),Qad (by omega) (by omega),show (p.length:Int) + 1 = ((p ++ [s]).length:Int) by simp]
   rw [ih t (p ++ [s]) (by rw [← hp]; simp) (by simp; omega) k (by omega) (m + (s.length:Int)) (by omega) (by simp only [List.length_append,List.length_cons,List.length_nil]; omega)]
   have e:Qf0 ((s :: t).take (r + 1)) = (s.length:Int) + Qf0 (t.take r) := by simp [Qf0]
   rw [e]
   refine congrArg (fun b => some (CV.bool b)) (decide_eq_decide.2 ?_)
   omega
theorem QtY:∀ c:Cd,Fits c → Ret lb QaT [cdv c] (.bool (lgC c)) := by
 refine Qg9 lb Qgx fun c hf hs => .top rfl (.eq (fun n => by rw [Qvn]) ?_)
 have hl := QjI hf
 obtain ⟨f1,f2⟩ := Qiz hf
 have e0 := Qnm lb c hf
 rw [QqA]
 by_cases q:sizC c > 300
 ·rw [if_pos q]
  exact e0.mono fun n a => stO _ a (stO _ (Qai ..) (stT (decT q) rfl))
 rw [if_neg q]
 have hh:∀ n,300 ≤ n → (∀ x ∈ c.l,C lb n QaT [cdv x] = some (.bool (lgC x))) → ∀ t p,p ++ t = c.l → ∀ k,t.length < k →
   QgQ lb n k c.k c.ln (c.l.map ccv) c.a c.b c.fr c.to c.days c.tn (scv c.t) (p.length:Int) = some (.bool (if lgs t = true then true else decide ((c.t.length:Int) + QnP c.t > 400))) := by
  intro n hn hs t
  induction t with
  | nil =>
   intro p hp k hk
   obtain ⟨k,rfl⟩ : ∃ j,k = j + 1 := ⟨k - 1,by simp at hk; omega⟩
   have hpl:p = c.l := by simpa using hp
   rw [Qi1]
   refine stF (decF (by rw [hpl,List.length_map]; omega)) ?_
   rw [Qrf,Qas,if_neg (by simp [lgs])]
   exact QwC lb c hf _ n 200 c.t [] rfl rfl n (by omega) _ (by omega) (by simp; omega)
  | cons x t ih =>
   intro p hp k hk
   obtain ⟨k,rfl⟩ : ∃ j,k = j + 1 := ⟨k - 1,by simp at hk; omega⟩
   have hpl:c.l.length = p.length + (t.length + 1) := by rw [← hp]; simp
   have hat := QfB (l := c.l) (i := p.length) (x := x) (by rw [← hp]; simp)
   rw [Qi1]
   refine stT (decT (by rw [List.length_map]; omega)) (stO _ hat (stC rfl (stO _ rfl (stO _ rfl (stO _ rfl (stO _ rfl (stO _ rfl (stO _ rfl (stO _ rfl (stO _ rfl (stO _ (hs x (by rw [← hp]; simp)) (stO _ rfl ?_))))))))))))
   rw [lgs]
   cases hx:lgC x with
   | true => exact stT rfl rfl
   | false =>
    refine stF rfl ?_
    rw [Qad (by omega) (by omega),show (p.length:Int) + 1 = ((p ++ [x]).length:Int) by simp]
    exact ih (p ++ [x]) (by rw [← hp]; simp) k (by simp at hk; omega)
 exact Evt.imp2 e0 (Evt.and hs (Evt.ge (c.l.length + 301))) fun n a ⟨b,hn⟩ => stO _ a (stO _ (Qai ..) (stF (decF q) (hh n (by omega) b c.l [] rfl n (by omega))))
structure Tp where
 ty:Bs
 sale:Int
 day:Int
 min:Int
 stops:Int
 tr:Int
 cn:Bool
 car:List Bs
 nn:Bool
 nums:List Int
 vn:Bool
 vias:List Bs
abbrev tpv (t:Tp):CV := .agg [.str t.ty, .int .i64 t.sale, .int .i64 t.day, .int .i64 t.min, .int .i64 t.stops, .int .i64 t.tr, .list t.cn (scv t.car), .list t.nn (t.nums.map fun z => [CV.int .i64 z]), .list t.vn (scv t.vias)]
end Go.Proofs
set_option linter.unusedVariables false
set_option linter.unusedSimpArgs false
namespace Go.Proofs
open Go.Am
variable (lb:Nat)
def QkT (i:Nat) (x:Bs):List Bs → Int
 | [] => -1
 | y :: t => if x = y then (i:Int) else QkT (i + 1) x t
theorem QuB (x:Bs):∀ (l:List Bs) (i:Nat),(0 ≤ QkT i x l) ↔ x ∈ l
 | [],i => by simp [QkT]
 | y :: t,i => by
  unfold QkT
  by_cases h:x = y
  ·simp [h]
  ·rw [if_neg h,QuB x t (i + 1)]
   simp [h]
theorem QtL (an:Bool) (l:List Bs) (x:Bs) (hl:l.length ≤ 281474976710656):Ret lb QaN [.list an (scv l), .str x] (.int .i64 (QkT 0 x l)) := by
 refine .top rfl (.eq (fun n => by rw [Qlk]) ?_)
 refine Evt.diag (m := l.length) (QyN (enc := fun s => [CV.str s]) (l := l) (by omega) (P := fun p t n k => Qc2 lb n k an (scv l) x (p.length:Int) = some (.int .i64 (QkT p.length x t))) ?_ ?_ l [] rfl)
 ·refine .all fun n k => ?_
  rw [Qet]
  refine stF (decF (by rw [Qas]; omega)) ?_
  rw [Qjd]
  rfl
 ·intro p y t hp hlt hat hw hev
  refine hev.mono fun n hn k hk => ?_
  rw [Qet]
  refine stT (decT hlt) (stO _ hat (stC rfl (stO _ rfl (stO _ rfl ?_))))
  unfold QkT
  by_cases h:x = y
  ·refine stT (by simp [h]) ?_
   rw [if_pos h]
  ·refine stF (by simp [h]) ?_
   rw [if_neg h,hw,hn k hk]
   simp
theorem Qgs (an:Bool) (l:List Bs) (x:Bs) (hl:l.length ≤ 281474976710656):Ret lb QaL [.list an (scv l), .str x] (.bool (decide (x ∈ l))) := by
 refine .top rfl (.eq (fun n => by rw [Qjl]) ?_)
 refine .call (QtL lb an l x hl) (.all fun n => stO _ (Qai ..) ?_)
 rw [show decide (QkT 0 x l ≥ 0) = decide (x ∈ l) from decide_eq_decide.2 (QuB x l 0)]
theorem Qwz (an:Bool) (l:List Bs) (x:Bs) (hl:l.length ≤ 281474976710656):Ret lb Qb5 [.list an (scv l), .str x] (.bool (decide (x ∈ l))) := by
 refine .top rfl (.eq (fun n => by rw [Qyp]) ?_)
 have key:∀ (p t:List Bs),p ++ t = l → x ∉ p → decide (x ∈ l) = decide (x ∈ t) := fun p t h hp => decide_eq_decide.2 (by rw [← h]; simp [hp])
 refine Evt.diag (m := l.length) ((QyN (enc := fun s => [CV.str s]) (l := l) (by omega) (P := fun p t n k => Qjp lb n k an (scv l) x (p.length:Int) = some (.bool (decide (x ∈ t)))) ?_ ?_ l [] rfl))
 ·refine .all fun n k => ?_
  rw [QkJ]
  refine stF (decF (by rw [Qas]; omega)) ?_
  rw [Quf]
  simp
 ·intro p y t hp hlt hat hw hev
  refine hev.mono fun n hn k hk => ?_
  rw [QkJ]
  refine stT (decT hlt) (stO _ hat (stC rfl (stO _ rfl (stO _ rfl ?_))))
  by_cases h:y = x
  ·refine stT (by simp [h]) ?_
   simp [h]
  ·refine stF (by simp [h]) ?_
   rw [hw,hn k hk,show decide (x ∈ y :: t) = decide (x ∈ t) from decide_eq_decide.2 (by simp [Ne.symm h])]
def Qcv (ok:Bs → Bool):List Bs → List Bs → Int
 | _,[] => 0
 | p,s :: r => if ok s = false then 5 else if s ∈ p then 6 else Qcv ok (p ++ [s]) r
theorem Qmf {α : Type} {p t l:List α} (h:p ++ t = l):(l.take ((p.length:Int)).toNat).drop 0 = p := by
 rw [Int.toNat_natCast, ← h]
 simp
def paxB (s:Bs):Bool := QfD s 3 3
theorem QnU (s:Bs) (hs:s.length ≤ 281474976710656):Ret lb QaP [.str s] (.bool (paxB s)) := by
 refine .top rfl (.eq (fun n => by rw [QoO]) ?_)
 exact (QmP lb s 3 3 hs).mono fun n a => stO _ a rfl
theorem Qlo (an:Bool) (l:List Bs) (hl:l.length ≤ 281474976710656) (hs:∀ s ∈ l,s.length ≤ 281474976710656) :
  Ret lb Qar [.list an (scv l), .fn QaZ] (.int .i64 (if l = [] then 2 else Qcv QcX [] l)) := by
 refine .top rfl (.eq (fun n => by rw [QiO]) ?_)
 by_cases h0:l = []
 ·subst h0
  exact .all fun n => stT rfl rfl
 rw [if_neg h0]
 have hp := List.length_pos_iff.2 h0
 have e1:Evt fun n => ∀ s ∈ l,C lb n QaZ [.str s] = some (.bool (QcX s)) := Evt.fin _ fun s h => QpK lb s (hs s h)
 have e2:Evt fun n => ∀ q ∈ (List.range (l.length + 1)).map (fun i => l.take i), ∀ s ∈ l,C lb n QaL [.list an (scv q), .str s] = some (.bool (decide (s ∈ q))) := Evt.fin _ fun q hq => Evt.fin _ fun s h => Qgs lb an q s (by
  obtain ⟨i,_,rfl⟩ := List.mem_map.1 hq
  simp; omega)
 have hh:∀ n,(∀ s ∈ l,C lb n QaZ [.str s] = some (.bool (QcX s))) → (∀ q ∈ (List.range (l.length + 1)).map (fun i => l.take i), ∀ s ∈ l,C lb n QaL [.list an (scv q), .str s] = some (.bool (decide (s ∈ q)))) →
   ∀ t p,p ++ t = l → ∀ k,t.length < k → cond_codes_text_Carrier_L1 lb n k an (scv l) (p.length:Int) = some (.int .i64 (Qcv QcX p t)) := by
  intro n a1 a2 t
  induction t with
  | nil =>
   intro p hp k hk
   obtain ⟨k,rfl⟩ : ∃ j,k = j + 1 := ⟨k - 1,by simp at hk; omega⟩
   have hpl:p = l := by simpa using hp
   rw [QdU]
   refine stF (decF (by rw [hpl,Qas]; omega)) ?_
   rw [Qhq]
   rfl
  | cons x t ih =>
   intro p hp k hk
   obtain ⟨k,rfl⟩ : ∃ j,k = j + 1 := ⟨k - 1,by simp at hk; omega⟩
   have hpl:l.length = p.length + (t.length + 1) := by rw [← hp]; simp
   have hx:x ∈ l := by rw [← hp]; simp
   have hq:p ∈ (List.range (l.length + 1)).map (fun i => l.take i) := List.mem_map.2 ⟨p.length,List.mem_range.2 (by omega),by rw [← hp]; simp⟩
   have hsc:((scv l).take ((p.length:Int)).toNat).drop 0 = scv p := by rw [← Qas p]; exact Qmf (t := scv (x :: t)) (by rw [← Qjy,hp])
   rw [QdU]
   refine stT (decT (by rw [Qas]; omega)) (stO _ (QlF (s := x) (by rw [← hp]; simp)) (stC rfl (stO _ rfl (stO _ (a1 x hx) (stO _ rfl ?_)))))
   unfold Qcv
   cases hb:QcX x with
   | false => exact stT rfl rfl
   | true =>
    refine stF rfl (stC (Qeb l) (stC (decT (by rw [Qas]; omega)) ?_))
    rw [hsc]
    refine stO _ (a2 p hq x hx) (stO _ rfl ?_)
    rw [if_neg (by simp)]
    by_cases hm:x ∈ p
    ·rw [if_pos hm]
     exact stT (decT hm) rfl
    ·rw [if_neg hm]
     refine stF (decF hm) ?_
     rw [Qad (by omega) (by omega),show (p.length:Int) + 1 = ((p ++ [x]).length:Int) by simp]
     exact ih (p ++ [x]) (by rw [← hp]; simp) k (by simp at hk; omega)
 exact Evt.imp2 e1 (Evt.and e2 (Evt.ge (l.length + 1))) fun n a ⟨b,hn⟩ => stF (beqF (by rw [Qas]; omega)) (hh n a b l [] rfl n (by omega))
theorem Qlh (an:Bool) (l:List Bs) (hl:l.length ≤ 281474976710656) (hs:∀ s ∈ l,s.length ≤ 281474976710656) :
  Ret lb Qar [.list an (scv l), .fn QaY] (.int .i64 (if l = [] then 2 else Qcv QcW [] l)) := by
 refine .top rfl (.eq (fun n => by rw [QiZ]) ?_)
 by_cases h0:l = []
 ·subst h0
  exact .all fun n => stT rfl rfl
 rw [if_neg h0]
 have hp := List.length_pos_iff.2 h0
 have e1:Evt fun n => ∀ s ∈ l,C lb n QaY [.str s] = some (.bool (QcW s)) := Evt.fin _ fun s h => Qqa lb s (hs s h)
 have e2:Evt fun n => ∀ q ∈ (List.range (l.length + 1)).map (fun i => l.take i), ∀ s ∈ l,C lb n QaL [.list an (scv q), .str s] = some (.bool (decide (s ∈ q))) := Evt.fin _ fun q hq => Evt.fin _ fun s h => Qgs lb an q s (by
  obtain ⟨i,_,rfl⟩ := List.mem_map.1 hq
  simp; omega)
 have hh:∀ n,(∀ s ∈ l,C lb n QaY [.str s] = some (.bool (QcW s))) → (∀ q ∈ (List.range (l.length + 1)).map (fun i => l.take i), ∀ s ∈ l,C lb n QaL [.list an (scv q), .str s] = some (.bool (decide (s ∈ q)))) →
   ∀ t p,p ++ t = l → ∀ k,t.length < k → Qcd lb n k an (scv l) (p.length:Int) = some (.int .i64 (Qcv QcW p t)) := by
  intro n a1 a2 t
  induction t with
  | nil =>
   intro p hp k hk
   obtain ⟨k,rfl⟩ : ∃ j,k = j + 1 := ⟨k - 1,by simp at hk; omega⟩
   have hpl:p = l := by simpa using hp
   rw [QdS]
   refine stF (decF (by rw [hpl,Qas]; omega)) ?_
   rw [Qhp]
   rfl
  | cons x t ih =>
   intro p hp k hk
   obtain ⟨k,rfl⟩ : ∃ j,k = j + 1 := ⟨k - 1,by simp at hk; omega⟩
   have hpl:l.length = p.length + (t.length + 1) := by rw [← hp]; simp
   have hx:x ∈ l := by rw [← hp]; simp
   have hq:p ∈ (List.range (l.length + 1)).map (fun i => l.take i) := List.mem_map.2 ⟨p.length,List.mem_range.2 (by omega),by rw [← hp]; simp⟩
   have hsc:((scv l).take ((p.length:Int)).toNat).drop 0 = scv p := by rw [← Qas p]; exact Qmf (t := scv (x :: t)) (by rw [← Qjy,hp])
   rw [QdS]
   refine stT (decT (by rw [Qas]; omega)) (stO _ (QlF (s := x) (by rw [← hp]; simp)) (stC rfl (stO _ rfl (stO _ (a1 x hx) (stO _ rfl ?_)))))
   unfold Qcv
   cases hb:QcW x with
   | false => exact stT rfl rfl
   | true =>
    refine stF rfl (stC (Qeb l) (stC (decT (by rw [Qas]; omega)) ?_))
    rw [hsc]
    refine stO _ (a2 p hq x hx) (stO _ rfl ?_)
    rw [if_neg (by simp)]
    by_cases hm:x ∈ p
    ·rw [if_pos hm]
     exact stT (decT hm) rfl
    ·rw [if_neg hm]
     refine stF (decF hm) ?_
     rw [Qad (by omega) (by omega),show (p.length:Int) + 1 = ((p ++ [x]).length:Int) by simp]
     exact ih (p ++ [x]) (by rw [← hp]; simp) k (by simp at hk; omega)
 exact Evt.imp2 e1 (Evt.and e2 (Evt.ge (l.length + 1))) fun n a ⟨b,hn⟩ => stF (beqF (by rw [Qas]; omega)) (hh n a b l [] rfl n (by omega))
theorem Qka (an:Bool) (l:List Bs) (hl:l.length ≤ 281474976710656) (hs:∀ s ∈ l,s.length ≤ 281474976710656) :
  Ret lb Qar [.list an (scv l), .fn QaP] (.int .i64 (if l = [] then 2 else Qcv paxB [] l)) := by
 refine .top rfl (.eq (fun n => by rw [QhM]) ?_)
 by_cases h0:l = []
 ·subst h0
  exact .all fun n => stT rfl rfl
 rw [if_neg h0]
 have hp := List.length_pos_iff.2 h0
 have e1:Evt fun n => ∀ s ∈ l,C lb n QaP [.str s] = some (.bool (paxB s)) := Evt.fin _ fun s h => QnU lb s (hs s h)
 have e2:Evt fun n => ∀ q ∈ (List.range (l.length + 1)).map (fun i => l.take i), ∀ s ∈ l,C lb n QaL [.list an (scv q), .str s] = some (.bool (decide (s ∈ q))) := Evt.fin _ fun q hq => Evt.fin _ fun s h => Qgs lb an q s (by
  obtain ⟨i,_,rfl⟩ := List.mem_map.1 hq
  simp; omega)
 have hh:∀ n,(∀ s ∈ l,C lb n QaP [.str s] = some (.bool (paxB s))) → (∀ q ∈ (List.range (l.length + 1)).map (fun i => l.take i), ∀ s ∈ l,C lb n QaL [.list an (scv q), .str s] = some (.bool (decide (s ∈ q)))) →
   ∀ t p,p ++ t = l → ∀ k,t.length < k → Qb1 lb n k an (scv l) (p.length:Int) = some (.int .i64 (Qcv paxB p t)) := by
  intro n a1 a2 t
  induction t with
  | nil =>
   intro p hp k hk
   obtain ⟨k,rfl⟩ : ∃ j,k = j + 1 := ⟨k - 1,by simp at hk; omega⟩
   have hpl:p = l := by simpa using hp
   rw [Qdw]
   refine stF (decF (by rw [hpl,Qas]; omega)) ?_
   rw [QgK]
   rfl
  | cons x t ih =>
   intro p hp k hk
   obtain ⟨k,rfl⟩ : ∃ j,k = j + 1 := ⟨k - 1,by simp at hk; omega⟩
   have hpl:l.length = p.length + (t.length + 1) := by rw [← hp]; simp
   have hx:x ∈ l := by rw [← hp]; simp
   have hq:p ∈ (List.range (l.length + 1)).map (fun i => l.take i) := List.mem_map.2 ⟨p.length,List.mem_range.2 (by omega),by rw [← hp]; simp⟩
   have hsc:((scv l).take ((p.length:Int)).toNat).drop 0 = scv p := by rw [← Qas p]; exact Qmf (t := scv (x :: t)) (by rw [← Qjy,hp])
   rw [Qdw]
   refine stT (decT (by rw [Qas]; omega)) (stO _ (QlF (s := x) (by rw [← hp]; simp)) (stC rfl (stO _ rfl (stO _ (a1 x hx) (stO _ rfl ?_)))))
   unfold Qcv
   cases hb:paxB x with
   | false => exact stT rfl rfl
   | true =>
    refine stF rfl (stC (Qeb l) (stC (decT (by rw [Qas]; omega)) ?_))
    rw [hsc]
    refine stO _ (a2 p hq x hx) (stO _ rfl ?_)
    rw [if_neg (by simp)]
    by_cases hm:x ∈ p
    ·rw [if_pos hm]
     exact stT (decT hm) rfl
    ·rw [if_neg hm]
     refine stF (decF hm) ?_
     rw [Qad (by omega) (by omega),show (p.length:Int) + 1 = ((p ++ [x]).length:Int) by simp]
     exact ih (p ++ [x]) (by rw [← hp]; simp) k (by simp at hk; omega)
 exact Evt.imp2 e1 (Evt.and e2 (Evt.ge (l.length + 1))) fun n a ⟨b,hn⟩ => stF (beqF (by rw [Qas]; omega)) (hh n a b l [] rfl n (by omega))
end Go.Proofs
set_option linter.unusedVariables false
set_option linter.unusedSimpArgs false
namespace Go.Proofs
open Go.Am
variable (lb:Nat)
def isl (k:Int):Bool := (k == 2) || ((k == 3) || (k == 4))
def isp (k:Int):Bool := (k == 5) || (k == 6)
def isc (k:Int):Bool := (k == 11) || ((k == 13) || (k == 14))
def nums (k:Int):Int := if k = 8 ∨ k = 12 then 2 else if k = 7 ∨ k = 9 ∨ k = 10 then 1 else 0
def Qbl (k:Int) (A B P T L:Bool):Bool := ((!isl k) && L) || (((!isc k) && T) || (((!isp k) && P) || ((decide (nums k < 1) && A) || (decide (nums k < 2) && B))))
def perN (c:Cd):Bool := !((c.fr == 0) && ((c.to == 0) && ((c.days == 0) && true)))
def Qa2 (c:Cd):Bool := Qbl c.k (c.a != 0) (c.b != 0) (perN c) (decide ((c.t.length:Int) > 0)) (decide ((c.l.length:Int) > 0))
def QbE (c:Cd):Bool :=
 if c.k = 2 ∨ c.k = 3 then decide (c.l.length = 0) else if c.k = 4 then decide (c.l.length ≠ 1) else if c.k = 7 then decide (c.a < 0 ∨ c.a ≥ 36525) else
 if c.k = 8 then decide (c.a < 0 ∨ c.a ≥ 1440 ∨ c.b < 0 ∨ c.b ≥ 1440) else if c.k = 9 ∨ c.k = 10 then decide (c.a < 0 ∨ c.a > 6) else
 if c.k = 12 then decide (c.a < 1 ∨ c.a > c.b ∨ c.b > 9999) else false
def Qfw (k:Int) (s:Bs):Bool := if k = 11 then QcX s else if k = 13 then QcW s else paxB s
def Qcn (c:Cd):Int := if c.t = [] then 2 else Qcv (Qfw c.k) [] c.t
def Qc0 (c:Cd):Int :=
 if c.k < 1 ∨ c.k > 14 then 8 else if Qa2 c = true then 3 else if QbE c = true then 2 else if isp c.k = true then perE c.fr c.to c.days else if isc c.k = true then Qcn c else 0
def Qbx {β : Type} (r:Option β):List Bool → Option β → Option β
 | [],x => x
 | b :: l,x => bif b then r else Qbx r l x
theorem QpW {β : Type} (r x:Option β):∀ l:List Bool,Qbx r l x = if l.any id = true then r else x
 | [] => rfl
 | true :: l => rfl
 | false :: l => by
  show Qbx r l x = _
  rw [QpW r x l]
  rfl
theorem Qdj {E W:List Bool} {x:Option CV} {c:Cd} {v:Int} (h0:¬ (c.k < 1 ∨ c.k > 14)) (hE:E.any id = Qa2 c) (hW:Qa2 c = false → W.any id = QbE c) (hx:x = some (.int .i64 v))
  (hv:v = if isp c.k = true then perE c.fr c.to c.days else if isc c.k = true then Qcn c else 0):Qbx (some (.int .i64 3)) E (Qbx (some (.int .i64 2)) W x) = some (.int .i64 (Qc0 c)) := by
 rw [QpW,QpW,hE]
 unfold Qc0
 rw [if_neg h0]
 cases he:Qa2 c with
 | true => rw [if_pos rfl,if_pos rfl]
 | false =>
  simp only [Bool.false_eq_true,if_false]
  rw [hW he]
  cases hw:QbE c with
  | true => rw [if_pos rfl,if_pos rfl]
  | false =>
   simp only [Bool.false_eq_true,if_false]
   rw [hx,hv]
theorem QAc (c:Cd) (hf:Fits c) (hl:c.l.length ≤ 127):Ret lb Qcs [cdv c] (.int .i64 (Qc0 c)) := by
 refine .top rfl (.eq (fun n => by rw [QvZ,QoS]) ?_)
 obtain ⟨f1,f2⟩ := Qiz hf
 have e5 := Qgr lb c.fr c.to c.days
 have e11 := Qlo lb c.tn c.t f1 f2
 have e13 := Qlh lb c.tn c.t f1 f2
 have mT := Qka lb c.tn c.t f1 f2
 refine Evt.imp2 (Evt.and e5 e11) (Evt.and e13 mT) fun n ⟨a5,a11⟩ ⟨a13,a14⟩ => ?_
 by_cases k1:c.k = 1
 ·refine stT (beqT k1) ((QoU ..).trans (Eq.trans (show _ = Qbx (some (.int .i64 3)) [(c.a != 0),(c.b != 0),(!((c.fr == 0) && ((c.to == 0) && ((c.days == 0) && true)))),(decide (((scv c.t).length:Int) > 0)),(decide (((c.l.map ccv).length:Int) > 0))] (Qbx (some (.int .i64 2)) [(decide (((c.l.map ccv).length:Int) < 0)),(decide (((c.l.map ccv).length:Int) > 0))] (some (.int .i64 0))) from rfl) ?_))
  simp only [List.length_map,Qas]
  refine Qdj (v := 0) (by omega) ?_ (fun he => ?_) (rfl) ?_
  ·unfold Qa2
   rw [k1]
   show [c.a != 0,c.b != 0,perN c,decide ((c.t.length:Int) > 0),decide ((c.l.length:Int) > 0)].any id = _
   exact (by decide:∀ A B P T L:Bool,[A,B,P,T,L].any id = Qbl 1 A B P T L) _ _ _ _ _
  ·have hz:c.l.length = 0 := by
    unfold Qa2 at he
    rw [k1] at he
    have := (by decide:∀ A B P T L:Bool,Qbl 1 A B P T L = false → L = false) _ _ _ _ _ he
    simpa using this
   unfold QbE
   simp only [k1]
   refine Bool.eq_iff_iff.2 ?_
   simp
   try first | omega | (rw [← List.length_eq_zero_iff]; omega)
  ·rw [k1]
   first | rfl | (unfold Qcn; rw [k1]; rfl)
 refine stF (beqF k1) ?_
 by_cases k2:c.k = 2
 ·refine stT (beqT k2) ((QoZ ..).trans (Eq.trans (show _ = Qbx (some (.int .i64 3)) [(c.a != 0),(c.b != 0),(!((c.fr == 0) && ((c.to == 0) && ((c.days == 0) && true)))),(decide (((scv c.t).length:Int) > 0))] (Qbx (some (.int .i64 2)) [(decide (((c.l.map ccv).length:Int) < 1)),(decide (((c.l.map ccv).length:Int) > 128))] (some (.int .i64 0))) from rfl) ?_))
  simp only [List.length_map,Qas]
  refine Qdj (v := 0) (by omega) ?_ (fun he => ?_) (rfl) ?_
  ·unfold Qa2
   rw [k2]
   show [c.a != 0,c.b != 0,perN c,decide ((c.t.length:Int) > 0)].any id = _
   exact (by decide:∀ A B P T L:Bool,[A,B,P,T].any id = Qbl 2 A B P T L) _ _ _ _ _
  ·unfold QbE
   simp only [k2]
   refine Bool.eq_iff_iff.2 ?_
   simp
   try first | omega | (rw [← List.length_eq_zero_iff]; omega)
  ·rw [k2]
   first | rfl | (unfold Qcn; rw [k2]; rfl)
 refine stF (beqF k2) ?_
 by_cases k3:c.k = 3
 ·refine stT (beqT k3) ((QoM ..).trans (Eq.trans (show _ = Qbx (some (.int .i64 3)) [(c.a != 0),(c.b != 0),(!((c.fr == 0) && ((c.to == 0) && ((c.days == 0) && true)))),(decide (((scv c.t).length:Int) > 0))] (Qbx (some (.int .i64 2)) [(decide (((c.l.map ccv).length:Int) < 1)),(decide (((c.l.map ccv).length:Int) > 128))] (some (.int .i64 0))) from rfl) ?_))
  simp only [List.length_map,Qas]
  refine Qdj (v := 0) (by omega) ?_ (fun he => ?_) (rfl) ?_
  ·unfold Qa2
   rw [k3]
   show [c.a != 0,c.b != 0,perN c,decide ((c.t.length:Int) > 0)].any id = _
   exact (by decide:∀ A B P T L:Bool,[A,B,P,T].any id = Qbl 3 A B P T L) _ _ _ _ _
  ·unfold QbE
   simp only [k3]
   refine Bool.eq_iff_iff.2 ?_
   simp
   try first | omega | (rw [← List.length_eq_zero_iff]; omega)
  ·rw [k3]
   first | rfl | (unfold Qcn; rw [k3]; rfl)
 refine stF (beqF k3) ?_
 by_cases k4:c.k = 4
 ·refine stT (beqT k4) ((QoQ ..).trans (Eq.trans (show _ = Qbx (some (.int .i64 3)) [(c.a != 0),(c.b != 0),(!((c.fr == 0) && ((c.to == 0) && ((c.days == 0) && true)))),(decide (((scv c.t).length:Int) > 0))] (Qbx (some (.int .i64 2)) [(decide (((c.l.map ccv).length:Int) < 1)),(decide (((c.l.map ccv).length:Int) > 1))] (some (.int .i64 0))) from rfl) ?_))
  simp only [List.length_map,Qas]
  refine Qdj (v := 0) (by omega) ?_ (fun he => ?_) (rfl) ?_
  ·unfold Qa2
   rw [k4]
   show [c.a != 0,c.b != 0,perN c,decide ((c.t.length:Int) > 0)].any id = _
   exact (by decide:∀ A B P T L:Bool,[A,B,P,T].any id = Qbl 4 A B P T L) _ _ _ _ _
  ·unfold QbE
   simp only [k4]
   refine Bool.eq_iff_iff.2 ?_
   simp
   try first | omega | (rw [← List.length_eq_zero_iff]; omega)
  ·rw [k4]
   first | rfl | (unfold Qcn; rw [k4]; rfl)
 refine stF (beqF k4) ?_
 by_cases k5:c.k = 5
 ·refine stT (beqT k5) ((QoY ..).trans (Eq.trans (show _ = Qbx (some (.int .i64 3)) [(c.a != 0),(c.b != 0),(decide (((scv c.t).length:Int) > 0)),(decide (((c.l.map ccv).length:Int) > 0))] (Qbx (some (.int .i64 2)) [(decide (((c.l.map ccv).length:Int) < 0)),(decide (((c.l.map ccv).length:Int) > 0))] (optO (C lb n Qcl [.agg [.int .i64 c.fr, .int .i64 c.to, .int .i64 c.days]]) fun r => some r)) from rfl) ?_))
  simp only [List.length_map,Qas]
  refine Qdj (v := perE c.fr c.to c.days) (by omega) ?_ (fun he => ?_) (stO _ a5 rfl) ?_
  ·unfold Qa2
   rw [k5]
   show [c.a != 0,c.b != 0,decide ((c.t.length:Int) > 0),decide ((c.l.length:Int) > 0)].any id = _
   exact (by decide:∀ A B P T L:Bool,[A,B,T,L].any id = Qbl 5 A B P T L) _ _ _ _ _
  ·have hz:c.l.length = 0 := by
    unfold Qa2 at he
    rw [k5] at he
    have := (by decide:∀ A B P T L:Bool,Qbl 5 A B P T L = false → L = false) _ _ _ _ _ he
    simpa using this
   unfold QbE
   simp only [k5]
   refine Bool.eq_iff_iff.2 ?_
   simp
   try first | omega | (rw [← List.length_eq_zero_iff]; omega)
  ·rw [k5]
   first | rfl | (unfold Qcn; rw [k5]; rfl)
 refine stF (beqF k5) ?_
 by_cases k6:c.k = 6
 ·refine stT (beqT k6) ((QoP ..).trans (Eq.trans (show _ = Qbx (some (.int .i64 3)) [(c.a != 0),(c.b != 0),(decide (((scv c.t).length:Int) > 0)),(decide (((c.l.map ccv).length:Int) > 0))] (Qbx (some (.int .i64 2)) [(decide (((c.l.map ccv).length:Int) < 0)),(decide (((c.l.map ccv).length:Int) > 0))] (optO (C lb n Qcl [.agg [.int .i64 c.fr, .int .i64 c.to, .int .i64 c.days]]) fun r => some r)) from rfl) ?_))
  simp only [List.length_map,Qas]
  refine Qdj (v := perE c.fr c.to c.days) (by omega) ?_ (fun he => ?_) (stO _ a5 rfl) ?_
  ·unfold Qa2
   rw [k6]
   show [c.a != 0,c.b != 0,decide ((c.t.length:Int) > 0),decide ((c.l.length:Int) > 0)].any id = _
   exact (by decide:∀ A B P T L:Bool,[A,B,T,L].any id = Qbl 6 A B P T L) _ _ _ _ _
  ·have hz:c.l.length = 0 := by
    unfold Qa2 at he
    rw [k6] at he
    have := (by decide:∀ A B P T L:Bool,Qbl 6 A B P T L = false → L = false) _ _ _ _ _ he
    simpa using this
   unfold QbE
   simp only [k6]
   refine Bool.eq_iff_iff.2 ?_
   simp
   try first | omega | (rw [← List.length_eq_zero_iff]; omega)
  ·rw [k6]
   first | rfl | (unfold Qcn; rw [k6]; rfl)
 refine stF (beqF k6) ?_
 by_cases k7:c.k = 7
 ·refine stT (beqT k7) ((Qo2 ..).trans (Eq.trans (show _ = Qbx (some (.int .i64 3)) [(c.b != 0),(!((c.fr == 0) && ((c.to == 0) && ((c.days == 0) && true)))),(decide (((scv c.t).length:Int) > 0)),(decide (((c.l.map ccv).length:Int) > 0))] (Qbx (some (.int .i64 2)) [(decide (((c.l.map ccv).length:Int) < 0)),(decide (((c.l.map ccv).length:Int) > 0)),(decide (c.a < 0)),(decide (c.a > 36524))] (some (.int .i64 0))) from rfl) ?_))
  simp only [List.length_map,Qas]
  refine Qdj (v := 0) (by omega) ?_ (fun he => ?_) (rfl) ?_
  ·unfold Qa2
   rw [k7]
   show [c.b != 0,perN c,decide ((c.t.length:Int) > 0),decide ((c.l.length:Int) > 0)].any id = _
   exact (by decide:∀ A B P T L:Bool,[B,P,T,L].any id = Qbl 7 A B P T L) _ _ _ _ _
  ·have hz:c.l.length = 0 := by
    unfold Qa2 at he
    rw [k7] at he
    have := (by decide:∀ A B P T L:Bool,Qbl 7 A B P T L = false → L = false) _ _ _ _ _ he
    simpa using this
   unfold QbE
   simp only [k7]
   refine Bool.eq_iff_iff.2 ?_
   simp
   try first | omega | (rw [← List.length_eq_zero_iff]; omega)
  ·rw [k7]
   first | rfl | (unfold Qcn; rw [k7]; rfl)
 refine stF (beqF k7) ?_
 by_cases k8:c.k = 8
 ·refine stT (beqT k8) ((QoK ..).trans (Eq.trans (show _ = Qbx (some (.int .i64 3)) [(!((c.fr == 0) && ((c.to == 0) && ((c.days == 0) && true)))),(decide (((scv c.t).length:Int) > 0)),(decide (((c.l.map ccv).length:Int) > 0))] (Qbx (some (.int .i64 2)) [(decide (((c.l.map ccv).length:Int) < 0)),(decide (((c.l.map ccv).length:Int) > 0)),(decide (c.a < 0)),(decide (c.a > 1439)),(decide (c.b < 0)),(decide (c.b > 1439))] (some (.int .i64 0))) from rfl) ?_))
  simp only [List.length_map,Qas]
  refine Qdj (v := 0) (by omega) ?_ (fun he => ?_) (rfl) ?_
  ·unfold Qa2
   rw [k8]
   show [perN c,decide ((c.t.length:Int) > 0),decide ((c.l.length:Int) > 0)].any id = _
   exact (by decide:∀ A B P T L:Bool,[P,T,L].any id = Qbl 8 A B P T L) _ _ _ _ _
  ·have hz:c.l.length = 0 := by
    unfold Qa2 at he
    rw [k8] at he
    have := (by decide:∀ A B P T L:Bool,Qbl 8 A B P T L = false → L = false) _ _ _ _ _ he
    simpa using this
   unfold QbE
   simp only [k8]
   refine Bool.eq_iff_iff.2 ?_
   simp
   try first | omega | (rw [← List.length_eq_zero_iff]; omega)
  ·rw [k8]
   first | rfl | (unfold Qcn; rw [k8]; rfl)
 refine stF (beqF k8) ?_
 by_cases k9:c.k = 9
 ·refine stT (beqT k9) ((QoL ..).trans (Eq.trans (show _ = Qbx (some (.int .i64 3)) [(c.b != 0),(!((c.fr == 0) && ((c.to == 0) && ((c.days == 0) && true)))),(decide (((scv c.t).length:Int) > 0)),(decide (((c.l.map ccv).length:Int) > 0))] (Qbx (some (.int .i64 2)) [(decide (((c.l.map ccv).length:Int) < 0)),(decide (((c.l.map ccv).length:Int) > 0)),(decide (c.a < 0)),(decide (c.a > 6))] (some (.int .i64 0))) from rfl) ?_))
  simp only [List.length_map,Qas]
  refine Qdj (v := 0) (by omega) ?_ (fun he => ?_) (rfl) ?_
  ·unfold Qa2
   rw [k9]
   show [c.b != 0,perN c,decide ((c.t.length:Int) > 0),decide ((c.l.length:Int) > 0)].any id = _
   exact (by decide:∀ A B P T L:Bool,[B,P,T,L].any id = Qbl 9 A B P T L) _ _ _ _ _
  ·have hz:c.l.length = 0 := by
    unfold Qa2 at he
    rw [k9] at he
    have := (by decide:∀ A B P T L:Bool,Qbl 9 A B P T L = false → L = false) _ _ _ _ _ he
    simpa using this
   unfold QbE
   simp only [k9]
   refine Bool.eq_iff_iff.2 ?_
   simp
   try first | omega | (rw [← List.length_eq_zero_iff]; omega)
  ·rw [k9]
   first | rfl | (unfold Qcn; rw [k9]; rfl)
 refine stF (beqF k9) ?_
 by_cases wv:c.k = 10
 ·refine stT (beqT wv) ((QoW ..).trans (Eq.trans (show _ = Qbx (some (.int .i64 3)) [(c.b != 0),(!((c.fr == 0) && ((c.to == 0) && ((c.days == 0) && true)))),(decide (((scv c.t).length:Int) > 0)),(decide (((c.l.map ccv).length:Int) > 0))] (Qbx (some (.int .i64 2)) [(decide (((c.l.map ccv).length:Int) < 0)),(decide (((c.l.map ccv).length:Int) > 0)),(decide (c.a < 0)),(decide (c.a > 6))] (some (.int .i64 0))) from rfl) ?_))
  simp only [List.length_map,Qas]
  refine Qdj (v := 0) (by omega) ?_ (fun he => ?_) (rfl) ?_
  ·unfold Qa2
   rw [wv]
   show [c.b != 0,perN c,decide ((c.t.length:Int) > 0),decide ((c.l.length:Int) > 0)].any id = _
   exact (by decide:∀ A B P T L:Bool,[B,P,T,L].any id = Qbl 10 A B P T L) _ _ _ _ _
  ·have hz:c.l.length = 0 := by
    unfold Qa2 at he
    rw [wv] at he
    have := (by decide:∀ A B P T L:Bool,Qbl 10 A B P T L = false → L = false) _ _ _ _ _ he
    simpa using this
   unfold QbE
   simp only [wv]
   refine Bool.eq_iff_iff.2 ?_
   simp
   try first | omega | (rw [← List.length_eq_zero_iff]; omega)
  ·rw [wv]
   first | rfl | (unfold Qcn; rw [wv]; rfl)
 refine stF (beqF wv) ?_
 by_cases ya:c.k = 11
 ·refine stT (beqT ya) ((QnL ..).trans (Eq.trans (show _ = Qbx (some (.int .i64 3)) [(c.a != 0),(c.b != 0),(!((c.fr == 0) && ((c.to == 0) && ((c.days == 0) && true)))),(decide (((c.l.map ccv).length:Int) > 0))] (Qbx (some (.int .i64 2)) [(decide (((c.l.map ccv).length:Int) < 0)),(decide (((c.l.map ccv).length:Int) > 0))] (optO (C lb n Qar [.list c.tn (scv c.t), .fn QaZ]) fun r => some r)) from rfl) ?_))
  simp only [List.length_map,Qas]
  refine Qdj (v := if c.t = [] then 2 else Qcv QcX [] c.t) (by omega) ?_ (fun he => ?_) (stO _ a11 rfl) ?_
  ·unfold Qa2
   rw [ya]
   show [c.a != 0,c.b != 0,perN c,decide ((c.l.length:Int) > 0)].any id = _
   exact (by decide:∀ A B P T L:Bool,[A,B,P,L].any id = Qbl 11 A B P T L) _ _ _ _ _
  ·have hz:c.l.length = 0 := by
    unfold Qa2 at he
    rw [ya] at he
    have := (by decide:∀ A B P T L:Bool,Qbl 11 A B P T L = false → L = false) _ _ _ _ _ he
    simpa using this
   unfold QbE
   simp only [ya]
   refine Bool.eq_iff_iff.2 ?_
   simp
   try first | omega | (rw [← List.length_eq_zero_iff]; omega)
  ·rw [ya]
   first | rfl | (unfold Qcn; rw [ya]; rfl)
 refine stF (beqF ya) ?_
 by_cases wz:c.k = 12
 ·refine stT (beqT wz) ((Qn7 ..).trans (Eq.trans (show _ = Qbx (some (.int .i64 3)) [(!((c.fr == 0) && ((c.to == 0) && ((c.days == 0) && true)))),(decide (((scv c.t).length:Int) > 0)),(decide (((c.l.map ccv).length:Int) > 0))] (Qbx (some (.int .i64 2)) [(decide (((c.l.map ccv).length:Int) < 0)),(decide (((c.l.map ccv).length:Int) > 0)),(decide (c.a < 0)),(decide (c.a > 9999)),(decide (c.b < 0)),(decide (c.b > 9999)),(decide (c.a < 1)),(decide (c.a > c.b))] (some (.int .i64 0))) from rfl) ?_))
  simp only [List.length_map,Qas]
  refine Qdj (v := 0) (by omega) ?_ (fun he => ?_) (rfl) ?_
  ·unfold Qa2
   rw [wz]
   show [perN c,decide ((c.t.length:Int) > 0),decide ((c.l.length:Int) > 0)].any id = _
   exact (by decide:∀ A B P T L:Bool,[P,T,L].any id = Qbl 12 A B P T L) _ _ _ _ _
  ·have hz:c.l.length = 0 := by
    unfold Qa2 at he
    rw [wz] at he
    have := (by decide:∀ A B P T L:Bool,Qbl 12 A B P T L = false → L = false) _ _ _ _ _ he
    simpa using this
   unfold QbE
   simp only [wz]
   refine Bool.eq_iff_iff.2 ?_
   simp
   try first | omega | (rw [← List.length_eq_zero_iff]; omega)
  ·rw [wz]
   first | rfl | (unfold Qcn; rw [wz]; rfl)
 refine stF (beqF wz) ?_
 by_cases ye:c.k = 13
 ·refine stT (beqT ye) ((Qob ..).trans (Eq.trans (show _ = Qbx (some (.int .i64 3)) [(c.a != 0),(c.b != 0),(!((c.fr == 0) && ((c.to == 0) && ((c.days == 0) && true)))),(decide (((c.l.map ccv).length:Int) > 0))] (Qbx (some (.int .i64 2)) [(decide (((c.l.map ccv).length:Int) < 0)),(decide (((c.l.map ccv).length:Int) > 0))] (optO (C lb n Qar [.list c.tn (scv c.t), .fn QaY]) fun r => some r)) from rfl) ?_))
  simp only [List.length_map,Qas]
  refine Qdj (v := if c.t = [] then 2 else Qcv QcW [] c.t) (by omega) ?_ (fun he => ?_) (stO _ a13 rfl) ?_
  ·unfold Qa2
   rw [ye]
   show [c.a != 0,c.b != 0,perN c,decide ((c.l.length:Int) > 0)].any id = _
   exact (by decide:∀ A B P T L:Bool,[A,B,P,L].any id = Qbl 13 A B P T L) _ _ _ _ _
  ·have hz:c.l.length = 0 := by
    unfold Qa2 at he
    rw [ye] at he
    have := (by decide:∀ A B P T L:Bool,Qbl 13 A B P T L = false → L = false) _ _ _ _ _ he
    simpa using this
   unfold QbE
   simp only [ye]
   refine Bool.eq_iff_iff.2 ?_
   simp
   try first | omega | (rw [← List.length_eq_zero_iff]; omega)
  ·rw [ye]
   first | rfl | (unfold Qcn; rw [ye]; rfl)
 refine stF (beqF ye) ?_
 by_cases k14:c.k = 14
 ·refine stT (beqT k14) ((QnI ..).trans (Eq.trans (show _ = Qbx (some (.int .i64 3)) [(c.a != 0),(c.b != 0),(!((c.fr == 0) && ((c.to == 0) && ((c.days == 0) && true)))),(decide (((c.l.map ccv).length:Int) > 0))] (Qbx (some (.int .i64 2)) [(decide (((c.l.map ccv).length:Int) < 0)),(decide (((c.l.map ccv).length:Int) > 0))] (optO (C lb n Qar [.list c.tn (scv c.t), .fn QaP]) fun r => some r)) from rfl) ?_))
  simp only [List.length_map,Qas]
  refine Qdj (v := if c.t = [] then 2 else Qcv paxB [] c.t) (by omega) ?_ (fun he => ?_) (stO _ a14 rfl) ?_
  ·unfold Qa2
   rw [k14]
   show [c.a != 0,c.b != 0,perN c,decide ((c.l.length:Int) > 0)].any id = _
   exact (by decide:∀ A B P T L:Bool,[A,B,P,L].any id = Qbl 14 A B P T L) _ _ _ _ _
  ·have hz:c.l.length = 0 := by
    unfold Qa2 at he
    rw [k14] at he
    have := (by decide:∀ A B P T L:Bool,Qbl 14 A B P T L = false → L = false) _ _ _ _ _ he
    simpa using this
   unfold QbE
   simp only [k14]
   refine Bool.eq_iff_iff.2 ?_
   simp
   try first | omega | (rw [← List.length_eq_zero_iff]; omega)
  ·rw [k14]
   first | rfl | (unfold Qcn; rw [k14]; rfl)
 refine stF (beqF k14) ?_
 refine (Qn3 ..).trans ?_
 unfold Qc0
 rw [if_pos (by omega)]
end Go.Proofs
set_option linter.unusedVariables false
set_option linter.unusedSimpArgs false
namespace Go.Proofs
open Go.Am
variable (lb:Nat)
theorem Qj8 (k:Int):Ret lb QgP [.int .i64 k] (.bool (isl k)) := by
 refine .top rfl (.eq (fun n => by rw [Qw1]) (.all fun n => ?_))
 unfold isl
 cases k == 2 <;> cases k == 3 <;> rfl
theorem QiS (k:Int):Ret lb QeR [.int .i64 k] (.bool (isc k)) := by
 refine .top rfl (.eq (fun n => by rw [QuH]) (.all fun n => ?_))
 unfold isc
 cases k == 11 <;> cases k == 13 <;> rfl
theorem QfC (k:Int):Ret lb QcD [.int .i64 k] (.bool (isp k)) := by
 refine .top rfl (.eq (fun n => by rw [Qt0]) (.all fun n => ?_))
 unfold isp
 cases k == 5 <;> rfl
theorem Qhk (k:Int):Ret lb QaB [.int .i64 k] (.int .i64 (nums k)) := by
 refine .top rfl (.eq (fun n => by rw [QrQ]) (.all fun n => ?_))
 unfold nums
 by_cases h1:k = 8
 ·rw [if_pos (.inl h1)]; exact stT (beqT h1) rfl
 by_cases h2:k = 12
 ·rw [if_pos (.inr h2)]; exact stF (beqF h1) (stT (beqT h2) rfl)
 rw [if_neg (fun e => e.elim h1 h2)]
 by_cases h3:k = 7
 ·rw [if_pos (.inl h3)]; exact stF (beqF h1) (stF (beqF h2) (stT (beqT h3) rfl))
 by_cases h4:k = 9
 ·rw [if_pos (.inr (.inl h4))]; exact stF (beqF h1) (stF (beqF h2) (stF (beqF h3) (stT (beqT h4) rfl)))
 by_cases h5:k = 10
 ·rw [if_pos (.inr (.inr h5))]; exact stF (beqF h1) (stF (beqF h2) (stF (beqF h3) (stF (beqF h4) (stT (beqT h5) rfl))))
 rw [if_neg (fun e => e.elim h3 (fun e => e.elim h4 h5))]
 exact stF (beqF h1) (stF (beqF h2) (stF (beqF h3) (stF (beqF h4) (stF (beqF h5) rfl))))
theorem Qp6 {x y r:Bool} {N1 N2:Option CV} (h1:N1 = some (.bool r)) (h2:N2 = some (.bool r)):(bif !x then (bif y then some (.bool true) else N1) else N2) = some (.bool ((!x && y) || r)) := by
 rw [h1,h2]; cases x <;> cases y <;> rfl
theorem Qzr {x y r:Bool} {N1 N2:Option CV} (h1:N1 = some (.bool r)) (h2:N2 = some (.bool r)):(bif x then (bif y then some (.bool true) else N1) else N2) = some (.bool ((x && y) || r)) := by
 rw [h1,h2]; cases x <;> cases y <;> rfl
theorem QAM {x y:Bool} : (bif x then some (CV.bool y) else some (CV.bool false)) = some (.bool (x && y)) := by cases x <;> rfl
theorem QtE (c:Cd):Ret lb Qll [cdv c] (.bool (Qa2 c)) := by
 refine .top rfl (.eq (fun n => by rw [Qvc]) ?_)
 refine Evt.imp2 (Evt.and (Qj8 lb c.k) (QiS lb c.k)) (Evt.and (QfC lb c.k) (Qhk lb c.k)) fun n ⟨a1,a2⟩ ⟨a3,a4⟩ => ?_
 unfold Qa2 Qbl perN
 have hl:(c.l.length:Int) = ((c.l.map ccv).length:Int) := by rw [List.length_map]
 rw [hl, ← Qas c.t]
 refine stO _ a1 (stO _ rfl (Qp6 ?_ ?_))
 all_goals refine stO _ a2 (stO _ rfl (Qp6 ?_ ?_))
 all_goals refine stO _ a3 (stO _ rfl (Qp6 ?_ ?_))
 all_goals refine stO _ a4 (stO _ (Qai ..) (Qzr ?_ ?_))
 all_goals exact stO _ a4 (stO _ (Qai ..) QAM)
theorem dec2 {p q:Prop} [Decidable p] [Decidable q] [Decidable (p ∨ q)]:(bif decide p then some (CV.bool true) else some (.bool (decide q))) = some (.bool (decide (p ∨ q))) := by
 by_cases hp:p <;> by_cases hq:q <;> simp [hp,hq]
theorem dec3 {p q r:Prop} [Decidable p] [Decidable q] [Decidable r] [Decidable (p ∨ q ∨ r)]:(bif decide p then some (CV.bool true) else bif decide q then some (CV.bool true) else some (.bool (decide r))) = some (.bool (decide (p ∨ q ∨ r))) := by
 by_cases hp:p <;> by_cases hq:q <;> by_cases hr:r <;> simp [hp,hq,hr]
theorem dec4 {p q r s:Prop} [Decidable p] [Decidable q] [Decidable r] [Decidable s] [Decidable (p ∨ q ∨ r ∨ s)]:(bif decide p then some (CV.bool true) else bif decide q then some (CV.bool true) else bif decide r then some (CV.bool true) else some (.bool (decide s))) = some (.bool (decide (p ∨ q ∨ r ∨ s))) := by
 by_cases hp:p <;> by_cases hq:q <;> by_cases hr:r <;> by_cases hs:s <;> simp [hp,hq,hr,hs]
theorem QtT (c:Cd):Ret lb QaX [cdv c] (.bool (QbE c)) := by
 refine .top rfl (.eq (fun n => by rw [Qu0]) (.all fun n => ?_))
 unfold QbE
 have hlen:((((c.l.map ccv).length:Nat):Int) == 0) = decide (c.l.length = 0) := by
  rw [List.length_map]
  refine Bool.eq_iff_iff.2 ?_
  rw [beq_iff_eq,decide_eq_true_iff]
  omega
 have hlen1:((((c.l.map ccv).length:Nat):Int) != 1) = decide (c.l.length ≠ 1) := by
  rw [List.length_map]
  refine Bool.eq_iff_iff.2 ?_
  rw [bne_iff_ne,decide_eq_true_iff]
  omega
 by_cases h2:c.k = 2
 ·rw [if_pos (.inl h2)]
  refine stT (beqT h2) ?_
  rw [QkI,beqT h2]
  exact stT rfl (by rw [hlen])
 refine stF (beqF h2) ?_
 rw [QkI]
 by_cases h3:c.k = 3
 ·rw [if_pos (.inr h3)]
  exact stT (beqT h3) (by rw [hlen])
 rw [if_neg (fun e => e.elim h2 h3)]
 refine stF (beqF h3) ?_
 by_cases h4:c.k = 4
 ·rw [if_pos h4]
  exact stT (beqT h4) (by rw [hlen1])
 rw [if_neg h4]
 refine stF (beqF h4) ?_
 by_cases h7:c.k = 7
 ·rw [if_pos h7]
  exact stT (beqT h7) dec2
 rw [if_neg h7]
 refine stF (beqF h7) ?_
 by_cases h8:c.k = 8
 ·rw [if_pos h8]
  exact stT (beqT h8) dec4
 rw [if_neg h8]
 refine stF (beqF h8) ?_
 by_cases h9:c.k = 9
 ·rw [if_pos (.inl h9)]
  refine stT (beqT h9) ?_
  rw [QkG]
  exact stT (beqT h9) dec2
 refine stF (beqF h9) ?_
 rw [QkG]
 by_cases h10:c.k = 10
 ·rw [if_pos (.inr h10)]
  exact stT (beqT h10) dec2
 rw [if_neg (fun e => e.elim h9 h10)]
 refine stF (beqF h10) ?_
 by_cases h12:c.k = 12
 ·rw [if_pos h12]
  exact stT (beqT h12) dec3
 rw [if_neg h12]
 exact stF (beqF h12) rfl
theorem Qwk (k:Int) (s:Bs) (hs:s.length ≤ 281474976710656):Ret lb Qg0 [.int .i64 k, .str s] (.bool (Qfw k s)) := by
 refine .top rfl (.eq (fun n => by rw [QwM]) ?_)
 unfold Qfw
 by_cases h1:k = 11
 ·rw [if_pos h1]
  exact (Qqy lb s hs).mono fun n a => stT (beqT h1) (stO _ a rfl)
 rw [if_neg h1]
 by_cases h2:k = 13
 ·rw [if_pos h2]
  exact (Qqu lb s hs).mono fun n a => stF (beqF h1) (stT (beqT h2) (stO _ a rfl))
 rw [if_neg h2]
 exact (QnY lb s 3 3 hs).mono fun n a => stF (beqF h1) (stF (beqF h2) (stO _ a rfl))
theorem Qwn (c:Cd) (hf:Fits c):Ret lb Qcf [cdv c] (.int .i64 (Qc0 c)) := by
 refine .top rfl (.eq (fun n => by rw [Qw0]) ?_)
 obtain ⟨f1,f2⟩ := Qiz hf
 unfold Qc0
 by_cases h1:c.k < 1
 ·rw [if_pos (.inl h1)]
  exact .all fun n => stT (decT h1) rfl
 by_cases h2:c.k > 14
 ·rw [if_pos (.inr h2)]
  exact .all fun n => stF (decF h1) (stT (decT h2) rfl)
 rw [if_neg (fun e => e.elim h1 h2)]
 have e1 := QtE lb c
 cases hx:Qa2 c with
 | true =>
  rw [hx] at e1
  rw [if_pos rfl]
  exact e1.mono fun n a => stF (decF h1) (stF (decF h2) (stO _ a (stO _ rfl (stT rfl rfl))))
 | false =>
  rw [hx] at e1
  simp only [Bool.false_eq_true,if_false]
  have e2 := QtT lb c
  cases hw:QbE c with
  | true =>
   rw [hw] at e2
   rw [if_pos rfl]
   exact Evt.imp2 e1 e2 fun n a b => stF (decF h1) (stF (decF h2) (stO _ a (stO _ rfl (stF rfl (stO _ b (stO _ rfl (stT rfl rfl)))))))
  | false =>
   rw [hw] at e2
   simp only [Bool.false_eq_true,if_false]
   have e3 := QfC lb c.k
   cases hp:isp c.k with
   | true =>
    rw [hp] at e3
    rw [if_pos rfl]
    exact Evt.imp2 (Evt.and e1 e2) (Evt.and e3 (QiT lb c.fr c.to c.days)) fun n ⟨a,b⟩ ⟨d,e⟩ => stF (decF h1) (stF (decF h2) (stO _ a (stO _ rfl (stF rfl (stO _ b (stO _ rfl (stF rfl (stO _ d (stO _ rfl (stT rfl (stO _ e rfl)))))))))))
   | false =>
    rw [hp] at e3
    simp only [Bool.false_eq_true,if_false]
    have e4 := QiS lb c.k
    have e5:Evt fun n => ∀ s ∈ c.t,C lb n Qg0 [.int .i64 c.k, .str s] = some (.bool (Qfw c.k s)) := Evt.fin _ fun s h => Qwk lb c.k s (f2 s h)
    have e6:Evt fun n => ∀ q ∈ (List.range (c.t.length + 1)).map (fun i => c.t.take i), ∀ s ∈ c.t,C lb n Qb5 [.list c.tn (scv q), .str s] = some (.bool (decide (s ∈ q))) := Evt.fin _ fun q hq => Evt.fin _ fun s h => Qwz lb c.tn q s (by
     obtain ⟨i,_,rfl⟩ := List.mem_map.1 hq
     simp; omega)
    have hh:∀ n,(∀ s ∈ c.t,C lb n Qg0 [.int .i64 c.k, .str s] = some (.bool (Qfw c.k s))) → (∀ q ∈ (List.range (c.t.length + 1)).map (fun i => c.t.take i), ∀ s ∈ c.t,C lb n Qb5 [.list c.tn (scv q), .str s] = some (.bool (decide (s ∈ q)))) →
      ∀ t p,p ++ t = c.t → ∀ k,t.length < k → QfN lb n k c.k c.ln (c.l.map ccv) c.a c.b c.fr c.to c.days c.tn (scv c.t) (p.length:Int) = some (.int .i64 (Qcv (Qfw c.k) p t)) := by
     intro n a1 a2 t
     induction t with
     | nil =>
      intro p hp k hk
      obtain ⟨k,rfl⟩ : ∃ j,k = j + 1 := ⟨k - 1,by simp at hk; omega⟩
      have hpl:p = c.t := by simpa using hp
      rw [Qj7]
      refine stF (decF (by rw [hpl,Qas]; omega)) ?_
      rw [Qr9]
      rfl
     | cons x t ih =>
      intro p hp k hk
      obtain ⟨k,rfl⟩ : ∃ j,k = j + 1 := ⟨k - 1,by simp at hk; omega⟩
      have hpl:c.t.length = p.length + (t.length + 1) := by rw [← hp]; simp
      have hx:x ∈ c.t := by rw [← hp]; simp
      have hq:p ∈ (List.range (c.t.length + 1)).map (fun i => c.t.take i) := List.mem_map.2 ⟨p.length,List.mem_range.2 (by omega),by rw [← hp]; simp⟩
      have hsc:((scv c.t).take ((p.length:Int)).toNat).drop 0 = scv p := by rw [← Qas p]; exact Qmf (t := scv (x :: t)) (by rw [← Qjy,hp])
      have hat := QlF (t := c.t) (i := p.length) (s := x) (by rw [← hp]; simp)
      rw [Qj7]
      refine stT (decT (by rw [Qas]; omega)) (stO _ hat (stC rfl (stO _ rfl (stO _ (a1 x hx) (stO _ rfl ?_)))))
      unfold Qcv
      cases hb:Qfw c.k x with
      | false => exact stT rfl rfl
      | true =>
       refine stF rfl (stC (Qeb c.t) (stC (decT (by rw [Qas]; omega)) (stO _ hat (stC rfl (stO _ rfl ?_)))))
       rw [hsc]
       refine stO _ (a2 p hq x hx) (stO _ rfl ?_)
       rw [if_neg (by simp)]
       by_cases hm:x ∈ p
       ·rw [if_pos hm]
        exact stT (decT hm) rfl
       ·rw [if_neg hm]
        refine stF (decF hm) ?_
        rw [Qad (by omega) (by omega),show (p.length:Int) + 1 = ((p ++ [x]).length:Int) by simp]
        exact ih (p ++ [x]) (by rw [← hp]; simp) k (by simp at hk; omega)
    have hnil:c.t = [] → Qcv (Qfw c.k) [] c.t = 0 := fun h => by rw [h]; rfl
    cases hc:isc c.k with
    | true =>
     rw [hc] at e4
     rw [if_pos rfl]
     unfold Qcn
     by_cases h0:c.t = []
     ·rw [if_pos h0]
      exact Evt.imp2 (Evt.and e1 e2) (Evt.and e3 e4) fun n ⟨a,b⟩ ⟨d,e⟩ => stF (decF h1) (stF (decF h2) (stO _ a (stO _ rfl (stF rfl (stO _ b (stO _ rfl (stF rfl (stO _ d (stO _ rfl (stF rfl (stO _ e (stO _ rfl (stT rfl (stT (beqT (by rw [h0]; rfl)) rfl))))))))))))))
     ·rw [if_neg h0]
      have hpos := List.length_pos_iff.2 h0
      exact Evt.imp2 (Evt.and (Evt.and e1 e2) (Evt.and e5 e6)) (Evt.and (Evt.and e3 e4) (Evt.ge (c.t.length + 1))) fun n ⟨⟨a,b⟩,f,g⟩ ⟨⟨d,e⟩,hn⟩ => stF (decF h1) (stF (decF h2) (stO _ a (stO _ rfl (stF rfl (stO _ b (stO _ rfl (stF rfl (stO _ d (stO _ rfl (stF rfl (stO _ e (stO _ rfl (stT rfl (stF (beqF (by rw [Qas]; omega)) (hh n f g c.t [] rfl n (by omega))))))))))))))))
    | false =>
     rw [hc] at e4
     simp only [Bool.false_eq_true,if_false]
     have ht:c.t = [] := by
      have h3:(!isc c.k && decide ((c.t.length:Int) > 0)) = false := by
       unfold Qa2 Qbl at hx
       simp only [Bool.or_eq_false_iff] at hx
       exact hx.2.1
      rw [hc] at h3
      have:¬ (c.t.length:Int) > 0 := by simpa using h3
      exact List.length_eq_zero_iff.1 (by omega)
     exact Evt.imp2 (Evt.and (Evt.and e1 e2) (Evt.and e5 e6)) (Evt.and (Evt.and e3 e4) (Evt.ge (c.t.length + 1))) fun n ⟨⟨a,b⟩,f,g⟩ ⟨⟨d,e⟩,hn⟩ => stF (decF h1) (stF (decF h2) (stO _ a (stO _ rfl (stF rfl (stO _ b (stO _ rfl (stF rfl (stO _ d (stO _ rfl (stF rfl (stO _ e (stO _ rfl (stF rfl ((hh n f g c.t [] rfl n (by omega)).trans (by rw [hnil ht])))))))))))))))
end Go.Proofs
set_option linter.unusedVariables false
set_option linter.unusedSimpArgs false
namespace Go.Proofs
open Go.Am
variable (lb:Nat)
mutual
def parE:Cd → Int
 | .mk k ln l a b fr to days tn t => if Qc0 (.mk k ln l a b fr to days tn t) ≠ 0 then Qc0 (.mk k ln l a b fr to days tn t) else Qew l
def Qew:List Cd → Int
 | [] => 0
 | c :: r => if parE c ≠ 0 then parE c else Qew r
end
theorem QlG (c:Cd):parE c = if Qc0 c ≠ 0 then Qc0 c else Qew c.l := by cases c; rw [parE]; rfl
def Few (c:Cd):Prop := Fits c ∧ tsz c ≤ 128
theorem Qxa:∀ c:Cd,Few c → ∀ x ∈ c.l,Few x := fun c h x hx => by
 have h1 := Qj3 hx
 have h2 := h.2
 rw [Qd9] at h2
 exact ⟨Qgx c h.1 x hx,by omega⟩
theorem Qxs {c:Cd} (h:Few c):c.l.length ≤ 127 := by
 have h1 := QjA c.l
 have h2 := h.2
 rw [Qd9] at h2
 omega
theorem Qsx:∀ c:Cd,Few c → Ret lb Qbr [cdv c] (.int .i64 (parE c)) := by
 refine Qg9 lb Qxa fun c hf hs => .top rfl (.eq (fun n => by rw [Qt7]) ?_)
 have hl := Qxs hf
 have e0 := QAc lb c hf.1 hl
 rw [QlG]
 by_cases h0:Qc0 c ≠ 0
 ·rw [if_pos h0]
  exact e0.mono fun n a => stO _ a (stO _ (Qai ..) (stT (bneT h0) rfl))
 rw [if_neg h0]
 have hh:∀ n,(∀ x ∈ c.l,C lb n Qbr [cdv x] = some (.int .i64 (parE x))) → ∀ t p,p ++ t = c.l → ∀ k,t.length < k → ∀ r,Qgj lb n k c.k c.ln (c.l.map ccv) c.a c.b c.fr c.to c.days c.tn (scv c.t) r (p.length:Int) = some (.int .i64 (Qew t)) := by
  intro n hs t
  induction t with
  | nil =>
   intro p hp k hk r
   obtain ⟨k,rfl⟩ : ∃ j,k = j + 1 := ⟨k - 1,by simp at hk; omega⟩
   have hpl:p = c.l := by simpa using hp
   rw [Qiy]
   refine stF (decF (by rw [hpl,List.length_map]; omega)) ?_
   rw [Qp2,Qew]
  | cons x t ih =>
   intro p hp k hk r
   obtain ⟨k,rfl⟩ : ∃ j,k = j + 1 := ⟨k - 1,by simp at hk; omega⟩
   have hpl:c.l.length = p.length + (t.length + 1) := by rw [← hp]; simp
   have hat := QfB (l := c.l) (i := p.length) (x := x) (by rw [← hp]; simp)
   rw [Qiy]
   refine stT (decT (by rw [List.length_map]; omega)) (stO _ hat (stC rfl (stO _ rfl (stO _ rfl (stO _ rfl (stO _ rfl (stO _ rfl (stO _ rfl (stO _ rfl (stO _ rfl (stO _ (hs x (by rw [← hp]; simp)) (stO _ (Qai ..) ?_))))))))))))
   rw [Qew]
   by_cases hx:parE x ≠ 0
   ·rw [if_pos hx]
    exact stT (bneT hx) rfl
   ·rw [if_neg hx]
    refine stF (bneF (Classical.byContradiction hx)) ?_
    rw [Qad (by omega) (by omega),show (p.length:Int) + 1 = ((p ++ [x]).length:Int) by simp]
    exact ih (p ++ [x]) (by rw [← hp]; simp) k (by simp at hk; omega) _
 exact Evt.imp2 e0 (Evt.and hs (Evt.ge (c.l.length + 1))) fun n a ⟨b,hn⟩ => stO _ a (stO _ (Qai ..) (stF (bneF (Classical.byContradiction h0)) (hh n b c.l [] rfl n (by omega) _)))
theorem Quh:∀ c:Cd,Few c → Ret lb QbG [cdv c] (.int .i64 (parE c)) := by
 refine Qg9 lb Qxa fun c hf hs => .top rfl (.eq (fun n => by rw [Qvl]) ?_)
 have hl := Qxs hf
 have e0 := Qwn lb c hf.1
 rw [QlG]
 by_cases h0:Qc0 c ≠ 0
 ·rw [if_pos h0]
  exact e0.mono fun n a => stO _ a (stO _ (Qai ..) (stT (bneT h0) rfl))
 rw [if_neg h0]
 have hh:∀ n,(∀ x ∈ c.l,C lb n QbG [cdv x] = some (.int .i64 (parE x))) → ∀ t p,p ++ t = c.l → ∀ k,t.length < k → ∀ r,Qg5 lb n k c.k c.ln (c.l.map ccv) c.a c.b c.fr c.to c.days c.tn (scv c.t) r (p.length:Int) = some (.int .i64 (Qew t)) := by
  intro n hs t
  induction t with
  | nil =>
   intro p hp k hk r
   obtain ⟨k,rfl⟩ : ∃ j,k = j + 1 := ⟨k - 1,by simp at hk; omega⟩
   have hpl:p = c.l := by simpa using hp
   rw [Qi5]
   refine stF (decF (by rw [hpl,List.length_map]; omega)) ?_
   rw [Qrn,Qew]
  | cons x t ih =>
   intro p hp k hk r
   obtain ⟨k,rfl⟩ : ∃ j,k = j + 1 := ⟨k - 1,by simp at hk; omega⟩
   have hpl:c.l.length = p.length + (t.length + 1) := by rw [← hp]; simp
   have hat := QfB (l := c.l) (i := p.length) (x := x) (by rw [← hp]; simp)
   rw [Qi5]
   refine stT (decT (by rw [List.length_map]; omega)) (stO _ hat (stC rfl (stO _ rfl (stO _ rfl (stO _ rfl (stO _ rfl (stO _ rfl (stO _ rfl (stO _ rfl (stO _ rfl (stO _ (hs x (by rw [← hp]; simp)) (stO _ (Qai ..) ?_))))))))))))
   rw [Qew]
   by_cases hx:parE x ≠ 0
   ·rw [if_pos hx]
    exact stT (bneT hx) rfl
   ·rw [if_neg hx]
    refine stF (bneF (Classical.byContradiction hx)) ?_
    rw [Qad (by omega) (by omega),show (p.length:Int) + 1 = ((p ++ [x]).length:Int) by simp]
    exact ih (p ++ [x]) (by rw [← hp]; simp) k (by simp at hk; omega) _
 exact Evt.imp2 e0 (Evt.and hs (Evt.ge (c.l.length + 1))) fun n a ⟨b,hn⟩ => stO _ a (stO _ (Qai ..) (stF (bneF (Classical.byContradiction h0)) (hh n b c.l [] rfl n (by omega) _)))
def QcT (c:Cd):Int := if levC c > 8 then 4 else if sizC c > 128 then 4 else parE c
mutual
def Qbe:Cd → Cd → Bool
 | .mk k ln l a b fr to days tn t,d => (k == d.k) && ((a == d.a) && ((b == d.b) && (((fr == d.fr) && ((to == d.to) && ((days == d.days) && true))) && (decide (t = d.t) && Qa1 l d.l))))
def Qa1:List Cd → List Cd → Bool
 | [],r => r.isEmpty
 | x :: l,r => match r with
  | [] => false
  | y :: r => Qbe x y && Qa1 l r
end
theorem QpQ (c d:Cd):Qbe c d = ((c.k == d.k) && ((c.a == d.a) && ((c.b == d.b) && (((c.fr == d.fr) && ((c.to == d.to) && ((c.days == d.days) && true))) && (decide (c.t = d.t) && Qa1 c.l d.l))))) := by cases c; rw [Qbe]; rfl
theorem Qmy:∀ {l r:List Cd},Qa1 l r = true → l.length = r.length
 | [],r,h => by
  rw [Qa1] at h
  cases r with
  | nil => rfl
  | cons y r => cases h
 | x :: l,[],h => by rw [Qa1] at h; cases h
 | x :: l,y :: r,h => by
  rw [Qa1,Bool.and_eq_true] at h
  simp [Qmy h.2]
theorem Qx1:∀ c:Cd,Qbe c c = true := by
 refine Cd.ind fun c ih => ?_
 rw [QpQ]
 have:∀ l:List Cd,(∀ x ∈ l,Qbe x x = true) → Qa1 l l = true := by
  intro l
  induction l with
  | nil => intro _; rw [Qa1]; rfl
  | cons x l ih => intro h; rw [Qa1,h x (by simp),ih fun y hy => h y (by simp [hy])]; rfl
 rw [this c.l ih]
 simp
def Mod (c:Cd):Prop := Fits c ∧ lgC c = false
theorem QBS:∀ c:Cd,Mod c → ∀ x ∈ c.l,Mod x := fun c h x hx => ⟨Qgx c h.1 x hx,QzG h.2 x hx⟩
theorem QCU {c:Cd} (h:Mod c):c.t.length ≤ 400 := by
 have h1 := Qzk h.2
 have h2 := QzL (c.t.take 200)
 unfold Qf0 at h2
 unfold QnP at h1
 omega
theorem QCV {c:Cd} (h:Mod c):c.l.length ≤ 300 := by
 have h1 := (QmF c h.1 h.2).2
 have h2 := QjA c.l
 rw [Qd9] at h1
 omega
end Go.Proofs
set_option linter.unusedVariables false
set_option linter.unusedSimpArgs false
namespace Go.Proofs
open Go.Am
variable (lb:Nat)
end Go.Proofs
set_option linter.unusedVariables false
set_option linter.unusedSimpArgs false
namespace Go.Proofs
open Go.Am
variable (lb:Nat)
theorem QxI:∀ {l:List Cd},Qew l = 0 → ∀ x ∈ l,parE x = 0
 | [],_,x,hx => by cases hx
 | c :: r,h,x,hx => by
  rw [Qew] at h
  split at h
  ·rename_i q; exact absurd h q
  ·rename_i q
   rcases List.mem_cons.1 hx with rfl | hx
   ·exact Classical.byContradiction q
   ·exact QxI h x hx
theorem QcC {c:Cd} (h:parE c = 0):Qc0 c = 0 ∧ ∀ x ∈ c.l,parE x = 0 := by
 rw [QlG] at h
 split at h
 ·rename_i q; exact absurd h q
 ·rename_i q
  exact ⟨Classical.byContradiction q,QxI h⟩
theorem QdY {c:Cd} (h:Qc0 c = 0):1 ≤ c.k ∧ c.k ≤ 14 ∧ Qa2 c = false ∧ QbE c = false := by
 unfold Qc0 at h
 split at h
 ·cases h
 split at h
 ·cases h
 split at h
 ·cases h
 ·rename_i h1 h2 h3
  exact ⟨by omega,by omega,by simpa using h2,by simpa using h3⟩
end Go.Proofs
