/- Chapter 20 on plain data: Check and Same of larger conditions; what is written. Conditions: as each says. -/
import Derived.Test.YtbdclhadjcfadaaGreatDoorCA
import Derived.Test.YtbdclhadjcfadaaGreatDoorPA
import Derived.Test.YtbdclhadjcfadaaGreatDoorHC
import Derived.Test.YtbdclhadjcfadaaGreatDoorGl
import Derived.Test.YtbdclhadjcfadaaGreatDoorHB
import Derived.Test.YtbdclhadjcfadaaGreatDoorCs
import Derived.Test.YtbdclhadjcfadaaGreatDoorGw
import Derived.Laws.RangeAny
import Derived.Test.YtbdclhadjcfadaaGreatDoorGv
import Derived.Test.YtbdclhadjcfadaaGreatDoorRA
set_option linter.unusedVariables false
set_option linter.unusedSimpArgs false
namespace Go.Proofs
open Go.Am
variable (lb:Nat)
theorem Qwl:∀ (l:List Cd) (n:Int),0 ≤ n → (∀ x ∈ l,sizC x = tsz x ∧ tsz x ≤ 1000000) → n + 1000000 * l.length ≤ 9223372036854775807 → sizs n l = n + tszs l
 | [],n,_,_,_ => by rw [sizs,tszs]; simp
 | c :: r,n,h0,h,hn => by
  obtain ⟨h1,h2⟩ := h c (by simp)
  simp only [List.length_cons] at hn
  rw [sizs,tszs,h1,w64,Qad (by omega) (by omega),Qwl r (n + tsz c) (by omega) (fun x hx => h x (by simp [hx])) (by omega)]
  omega
theorem Qr5:∀ c:Cd,tsz c ≤ 1000000 → sizC c = tsz c := by
 refine Cd.ind fun c ih h => ?_
 rw [Qd9] at h
 have hl := QjA c.l
 rw [Qjx,Qd9,Qwl c.l 1 (by omega) (fun x hx => by
  have := Qj3 hx
  exact ⟨ih x hx (by omega),by omega⟩) (by omega)]
 omega
theorem Qsw (c:Cd) (hf:Fits c) (hs:tsz c ≤ 1000000):Ret lb Qj5 [cdv c] (.int .i64 (QcT c)) := by
 refine .top rfl (.eq (fun n => by rw [QtN]) ?_)
 have s1 := Qr5 c hs
 have e0 := QrD lb c hf
 have e1 := Quc lb c hf
 unfold QcT
 by_cases h1:levC c > 8
 ·rw [if_pos h1]
  exact e0.mono fun n a => stO _ a (stO _ (Qai ..) (stT (decT h1) rfl))
 rw [if_neg h1]
 by_cases h2:sizC c > 128
 ·rw [if_pos h2]
  exact Evt.imp2 e0 e1 fun n a b => stO _ a (stO _ (Qai ..) (stF (decF h1) (stO _ b (stO _ (Qai ..) (stT (decT h2) rfl)))))
 rw [if_neg h2]
 exact Evt.imp2 e0 (Evt.and e1 (Qsx lb c ⟨hf,by omega⟩)) fun n a ⟨b,d⟩ => stO _ a (stO _ (Qai ..) (stF (decF h1) (stO _ b (stO _ (Qai ..) (stF (decF h2) (stO _ d rfl))))))
theorem Qt5 (c:Cd) (hf:Fits c) (hs:tsz c ≤ 1000000):Ret lb Qlc [cdv c] (.int .i64 (QcT c)) := by
 refine .top rfl (.eq (fun n => by rw [Qwc]) ?_)
 have s1 := Qr5 c hs
 have e0 := Qr3 lb c hf
 have e1 := Qnm lb c hf
 unfold QcT
 by_cases h1:levC c > 8
 ·rw [if_pos h1]
  exact e0.mono fun n a => stO _ a (stO _ (Qai ..) (stT (decT h1) rfl))
 rw [if_neg h1]
 by_cases h2:sizC c > 128
 ·rw [if_pos h2]
  exact Evt.imp2 e0 e1 fun n a b => stO _ a (stO _ (Qai ..) (stF (decF h1) (stO _ b (stO _ (Qai ..) (stT (decT h2) rfl)))))
 rw [if_neg h2]
 exact Evt.imp2 e0 (Evt.and e1 (Quh lb c ⟨hf,by omega⟩)) fun n a ⟨b,d⟩ => stO _ a (stO _ (Qai ..) (stF (decF h1) (stO _ b (stO _ (Qai ..) (stF (decF h2) (stO _ d rfl))))))
theorem QeZ {c:Cd} (hs:tsz c ≤ 1000000) (h:QcT c = 0):tsz c ≤ 128 ∧ parE c = 0 ∧ levC c ≤ 8 := by
 unfold QcT at h
 split at h
 ·cases h
 split at h
 ·cases h
 ·rename_i h1 h2
  have := Qr5 c hs
  exact ⟨by omega,h,by omega⟩
def clkS (m:Int):Bs := if m < 0 then [] else if m ≥ 1440 then [] else (twoS (IntKind.wrap .i64 (Int.tdiv m 60)) ++ [58]) ++ twoS (Int.tmod m 60)
theorem Qgu (z:Int):(twoS z).length = 2 := by simp [twoS]
theorem Qiv (m:Int):Ret lb QaO [.int .i64 m] (.str (clkS m)) := by
 refine .top rfl (.eq (fun n => by rw [Qo1]) ?_)
 unfold clkS
 by_cases h1:m < 0
 ·rw [if_pos h1]; exact .all fun n => stT (decT h1) rfl
 rw [if_neg h1]
 by_cases h2:m ≥ 1440
 ·rw [if_pos h2]; exact .all fun n => stF (decF h1) (stT (decT h2) rfl)
 rw [if_neg h2]
 have e1 := QcY lb (IntKind.wrap .i64 (Int.tdiv m 60))
 have e2 := QcY lb (Int.tmod m 60)
 exact Evt.imp2 e1 e2 fun n a b => stF (decF h1) (stF (decF h2) (stO _ a (stO _ rfl (stC (decT (by rw [Qgu]; decide)) (stO _ b (stO _ rfl (stC (decT (by rw [List.length_append,Qgu,Qgu]; decide)) rfl)))))))
theorem QmM (m:Int):Ret lb QhU [.int .i64 m] (.str (clkS m)) := by
 refine .top rfl (.eq (fun n => by rw [Qv1]) ?_)
 unfold clkS
 by_cases h1:m < 0
 ·rw [if_pos h1]; exact .all fun n => stT (decT h1) rfl
 rw [if_neg h1]
 by_cases h2:m ≥ 1440
 ·rw [if_pos h2]; exact .all fun n => stF (decF h1) (stT (decT h2) rfl)
 rw [if_neg h2]
 have e1 := QeY lb (IntKind.wrap .i64 (Int.tdiv m 60))
 have e2 := QeY lb (Int.tmod m 60)
 exact Evt.imp2 e1 e2 fun n a b => stF (decF h1) (stF (decF h2) (stO _ a (stO _ rfl (stC (decT (by rw [Qgu]; decide)) (stO _ b (stO _ rfl (stC (decT (by rw [List.length_append,Qgu,Qgu]; decide)) rfl)))))))
def kws:List Bs := [[],[97,108,108],[97,110,100],[111,114],[110,111,116],[116,114,97,118,101,108],[115,97,108,101],[97,100,118,97,110,99,101],[104,111,117,114],[115,116,111,112,115],[116,114,97,110,115,102,101,114,115],[99,97,114,114,105,101,114],[110,117,109,98,101,114],[118,105,97],[116,121,112,101]]
def kwd (k:Int):Bs := kws.getD k.toNat []
def Qc6 (k a b fr to days:Int) (t:List Bs):List Bs :=
 if isp k = true then [perS fr to days] else if isc k = true then t else if k = 8 then [clkS a,clkS b] else if nums k > 1 then [Lib.itoa a,Lib.itoa b] else if nums k > 0 then [Lib.itoa a] else []
abbrev Cd.args (c:Cd):List Bs := Qc6 c.k c.a c.b c.fr c.to c.days c.t
mutual
def wrC:Cd → Bs
 | .mk k ln l a b fr to days tn t => if isl k = true then kwd k ++ 40 :: (Lib.join (wrs l) [44,32] ++ [41]) else Lib.join (kwd k :: Qc6 k a b fr to days t) [32]
def wrs:List Cd → List Bs
 | [] => []
 | c :: r => wrC c :: wrs r
end
theorem QxF:∀ l:List Cd,wrs l = l.map wrC
 | [] => by rw [wrs]; rfl
 | c :: r => by rw [wrs,QxF r]; rfl
theorem Qcp (c:Cd):wrC c = if isl c.k = true then kwd c.k ++ 40 :: (Lib.join (c.l.map wrC) [44,32] ++ [41]) else Lib.join (kwd c.k :: c.args) [32] := by
 cases c; rw [wrC,QxF]; rfl
theorem QfF (x y:Bs) (r:List Bs) (s:Bs):Lib.join (x :: y :: r) s = x ++ s ++ Lib.join (y :: r) s := by simp [Lib.join,List.intercalate]
theorem QvT {s w:Bs} : ∀ {l:List Bs},w ∈ l → w.length ≤ (Lib.join l s).length
 | [],h => by cases h
 | [x],h => by
  rcases List.mem_cons.1 h with rfl | h
  ·rw [Lib.join_one]; omega
  ·cases h
 | x :: y :: r,h => by
  rw [QfF]
  simp only [List.length_append]
  rcases List.mem_cons.1 h with rfl | h
  ·omega
  ·have := QvT (s := s) h; omega
theorem QB1:∀ k:Fin 15,(kws.getD k.val []).length ≤ 9 := by decide
theorem QoI (k:Int):(kwd k).length ≤ 9 := by
 unfold kwd
 by_cases h:k.toNat < 15
 ·exact QB1 ⟨k.toNat,h⟩
 ·rw [List.getD_eq_getElem?_getD,List.getElem?_eq_none (by have:kws.length = 15 := rfl; omega)]; simp
theorem Qzb {c x:Cd} (hl:isl c.k = true) (hx:x ∈ c.l):(wrC x).length + 2 ≤ (wrC c).length := by
 rw [Qcp c,if_pos hl]
 have := QvT (s := [44,32]) (List.mem_map_of_mem (f := wrC) hx)
 simp only [List.length_append,List.length_cons,List.length_nil]
 omega
end Go.Proofs
set_option linter.unusedVariables false
set_option linter.unusedSimpArgs false
namespace Go.Proofs
open Go.Am
variable (lb:Nat)
theorem QhP (bn:Bool) (l:List Bs) (s:Bs) (hl:l.length ≤ 140737488355328) (hj:(Lib.join l s).length ≤ 140737488355328):Ret lb Qbm [.list bn (scv l), .str s] (.str (Lib.join l s)) :=
 .lib rfl (by simp only [Qma,QqJ,hl,hj,and_self,if_true])
theorem Qkc:∀ (l:List Bs) (s:Bs),1 ≤ s.length → l.length ≤ (Lib.join l s).length + 1
 | [],s,h => by simp
 | [x],s,h => by simp
 | x :: y :: r,s,h => by
  rw [QfF]
  have := Qkc (y :: r) s h
  simp only [List.length_append,List.length_cons] at this ⊢
  omega
theorem wr0 {c:Cd} (hk:isl c.k = false) (h:c.args = []):wrC c = kwd c.k := by rw [Qcp,hk,if_neg (by simp),h,Lib.join_one]
theorem wr1 {c:Cd} {x:Bs} (hk:isl c.k = false) (h:c.args = [x]):wrC c = kwd c.k ++ [32] ++ x := by rw [Qcp,hk,if_neg (by simp),h,QfF,Lib.join_one]
theorem wr2 {c:Cd} {x y:Bs} (hk:isl c.k = false) (h:c.args = [x,y]):wrC c = kwd c.k ++ [32] ++ x ++ [32] ++ y := by rw [Qcp,hk,if_neg (by simp),h,QfF,QfF,Lib.join_one]; simp
theorem wrt {c:Cd} (hk:isl c.k = false) (h:c.args ≠ []):wrC c = kwd c.k ++ [32] ++ Lib.join c.args [32] := by
 rw [Qcp,hk,if_neg (by simp)]
 cases hq:c.args with
 | nil => exact absurd hq h
 | cons x r => rw [QfF]
def Wok (c:Cd):Prop := parE c = 0 ∧ (wrC c).length ≤ 100000000
theorem QCp {c:Cd} (h:Wok c) (hk:isl c.k = false):c.l = [] := by
 obtain ⟨_,_,h1,_⟩ := QdY (QcC h.1).1
 unfold Qa2 Qbl at h1
 rw [hk] at h1
 simp only [Bool.not_false,Bool.true_and,Bool.or_eq_false_iff,decide_eq_false_iff_not] at h1
 exact List.length_eq_zero_iff.1 (by have := h1.1; omega)
theorem Qxl (c:Cd) (h:Wok c) (x:Cd) (hx:x ∈ c.l):Wok x := by
 refine ⟨(QcC h.1).2 x hx, ?_⟩
 cases hk:isl c.k with
 | true => have := Qzb hk hx; have := h.2; omega
 | false => rw [QCp h hk] at hx; cases hx
theorem Qr8 {c:Cd} (h:Wok c) (hk:isl c.k = true):c.l.length ≤ 100000001 ∧ (Lib.join (c.l.map wrC) [44,32]).length ≤ 100000000 := by
 have h2 := h.2
 rw [Qcp,if_pos hk] at h2
 simp only [List.length_append,List.length_cons,List.length_nil] at h2
 have := Qkc (c.l.map wrC) [44,32] (by simp)
 rw [List.length_map] at this
 omega
theorem QpP {c:Cd} (h:Wok c) (hk:isc c.k = true):c.t ≠ [] := by
 have h1 := (QcC h.1).1
 unfold Qc0 at h1
 split at h1
 ·cases h1
 split at h1
 ·cases h1
 split at h1
 ·cases h1
 have hp:isp c.k = false := by
  unfold isc at hk; unfold isp
  rw [Bool.or_eq_true,Bool.or_eq_true] at hk
  simp only [beq_iff_eq] at hk
  rw [Bool.or_eq_false_iff]
  simp only [beq_eq_false_iff_ne]
  omega
 rw [hp,if_neg (by simp)] at h1
 unfold Qcn at h1
 split at h1
 ·cases h1
 ·rename_i q; exact q
theorem Qor {c:Cd} (h:Wok c) : -9223372036854775808 ≤ c.a ∧ c.a ≤ 9223372036854775807 ∧ -9223372036854775808 ≤ c.b ∧ c.b ≤ 9223372036854775807 ∨ nums c.k = 0 ∨ (nums c.k = 1 ∧ -9223372036854775808 ≤ c.a ∧ c.a ≤ 9223372036854775807) := by
 obtain ⟨k1,k2,_,h1⟩ := QdY (QcC h.1).1
 unfold QbE at h1
 unfold nums
 split at h1
 ·rename_i q; exact .inr (.inl (by rw [if_neg (by omega),if_neg (by omega)]))
 split at h1
 ·rename_i q; exact .inr (.inl (by rw [if_neg (by omega),if_neg (by omega)]))
 split at h1
 ·rename_i q
  simp only [decide_eq_false_iff_not] at h1
  exact .inr (.inr ⟨by rw [if_neg (by omega),if_pos (by omega)],by omega,by omega⟩)
 split at h1
 ·rename_i q
  simp only [decide_eq_false_iff_not] at h1
  exact .inl ⟨by omega,by omega,by omega,by omega⟩
 split at h1
 ·rename_i q
  simp only [decide_eq_false_iff_not] at h1
  exact .inr (.inr ⟨by rw [if_neg (by omega),if_pos (by omega)],by omega,by omega⟩)
 split at h1
 ·rename_i q
  simp only [decide_eq_false_iff_not] at h1
  exact .inl ⟨by omega,by omega,by omega,by omega⟩
 ·exact .inr (.inl (by rw [if_neg (by omega),if_neg (by omega)]))
theorem Qmc (fr to days:Int):(perS fr to days).length ≤ 40 := by
 unfold perS
 split
 ·simp
 ·simp only [List.length_append,QgC,List.length_cons,List.length_nil]
  have := QjH days.toNat 7
  omega
theorem QhJ (m:Int):(clkS m).length ≤ 5 := by
 unfold clkS
 split
 ·simp
 split
 ·simp
 ·simp [Qgu]
theorem QvX (c:Cd) (hk:c.k = 2) (hl:c.l.length ≤ 100000001) (hj:(Lib.join (c.l.map wrC) [44,32]).length ≤ 100000000) (n:Nat) (hs:∀ x ∈ c.l,C lb n Qaj [cdv x] = some (.str (wrC x)))
  (hjo:∀ bn,C lb n Qbm [.list bn (scv (c.l.map wrC)), .str [44,32]] = some (.str (Lib.join (c.l.map wrC) [44,32]))) :
  ∀ t p,p ++ t = c.l → ∀ k,t.length < k → ∀ bn,Qgm lb n k c.k c.ln (c.l.map ccv) c.a c.b c.fr c.to c.days c.tn (scv c.t) bn (scv (p.map wrC)) (p.length:Int) = some (.str (wrC c))
 | [],p,hp,k,hk',bn => by
  obtain ⟨k,rfl⟩ : ∃ j,k = j + 1 := ⟨k - 1,by simp at hk'; omega⟩
  obtain rfl:p = c.l := by simpa using hp
  rw [Qis]
  refine stF (decF (by rw [List.length_map]; omega)) ?_
  rw [QpR]
  refine stO _ (hjo bn) (stO _ rfl (stC (decT (by (simp only [List.length_append, List.length_cons, List.length_nil]; omega))) (stC (decT (by (simp only [List.length_append, List.length_cons, List.length_nil]; omega))) ?_)))
  rw [Qcp,hk,if_pos (by decide)]
  simp [kwd,kws]
 | x :: t,p,hp,k,hk',bn => by
  obtain ⟨k,rfl⟩ : ∃ j,k = j + 1 := ⟨k - 1,by simp at hk'; omega⟩
  have hpl:c.l.length = p.length + (t.length + 1) := by rw [← hp]; simp
  have hat := QfB (l := c.l) (i := p.length) (x := x) (by rw [← hp]; simp)
  rw [Qis]
  refine stT (decT (by rw [List.length_map]; omega)) (stO _ hat (stC rfl (stO _ rfl (stO _ rfl (stO _ rfl (stO _ rfl (stO _ rfl (stO _ rfl (stO _ rfl (stO _ rfl (stO _ (hs x (by rw [← hp]; simp)) (stC rfl (stC (QdW (by rw [Qas,List.length_map]; omega)) ?_)))))))))))))
  rw [Qad (by omega) (by omega),show (p.length:Int) + 1 = ((p ++ [x]).length:Int) by simp]
  have e:scv (p.map wrC) ++ [[CV.str (wrC x)]] = scv ((p ++ [x]).map wrC) := by simp [scv]
  rw [e]
  exact QvX c hk hl hj n hs hjo t (p ++ [x]) (by rw [← hp]; simp) k (by simp at hk'; omega) _
theorem QuJ (c:Cd) (hk:c.k = 3) (hl:c.l.length ≤ 100000001) (hj:(Lib.join (c.l.map wrC) [44,32]).length ≤ 100000000) (n:Nat) (hs:∀ x ∈ c.l,C lb n Qaj [cdv x] = some (.str (wrC x)))
  (hjo:∀ bn,C lb n Qbm [.list bn (scv (c.l.map wrC)), .str [44,32]] = some (.str (Lib.join (c.l.map wrC) [44,32]))) :
  ∀ t p,p ++ t = c.l → ∀ k,t.length < k → ∀ bn,Qgk lb n k c.k c.ln (c.l.map ccv) c.a c.b c.fr c.to c.days c.tn (scv c.t) bn (scv (p.map wrC)) (p.length:Int) = some (.str (wrC c))
 | [],p,hp,k,hk',bn => by
  obtain ⟨k,rfl⟩ : ∃ j,k = j + 1 := ⟨k - 1,by simp at hk'; omega⟩
  obtain rfl:p = c.l := by simpa using hp
  rw [Qix]
  refine stF (decF (by rw [List.length_map]; omega)) ?_
  rw [Qqg]
  refine stO _ (hjo bn) (stO _ rfl (stC (decT (by (simp only [List.length_append, List.length_cons, List.length_nil]; omega))) (stC (decT (by (simp only [List.length_append, List.length_cons, List.length_nil]; omega))) ?_)))
  rw [Qcp,hk,if_pos (by decide)]
  simp [kwd,kws]
 | x :: t,p,hp,k,hk',bn => by
  obtain ⟨k,rfl⟩ : ∃ j,k = j + 1 := ⟨k - 1,by simp at hk'; omega⟩
  have hpl:c.l.length = p.length + (t.length + 1) := by rw [← hp]; simp
  have hat := QfB (l := c.l) (i := p.length) (x := x) (by rw [← hp]; simp)
  rw [Qix]
  refine stT (decT (by rw [List.length_map]; omega)) (stO _ hat (stC rfl (stO _ rfl (stO _ rfl (stO _ rfl (stO _ rfl (stO _ rfl (stO _ rfl (stO _ rfl (stO _ rfl (stO _ (hs x (by rw [← hp]; simp)) (stC rfl (stC (QdW (by rw [Qas,List.length_map]; omega)) ?_)))))))))))))
  rw [Qad (by omega) (by omega),show (p.length:Int) + 1 = ((p ++ [x]).length:Int) by simp]
  have e:scv (p.map wrC) ++ [[CV.str (wrC x)]] = scv ((p ++ [x]).map wrC) := by simp [scv]
  rw [e]
  exact QuJ c hk hl hj n hs hjo t (p ++ [x]) (by rw [← hp]; simp) k (by simp at hk'; omega) _
theorem Qwh (c:Cd) (hk:c.k = 4) (hl:c.l.length ≤ 100000001) (hj:(Lib.join (c.l.map wrC) [44,32]).length ≤ 100000000) (n:Nat) (hs:∀ x ∈ c.l,C lb n Qaj [cdv x] = some (.str (wrC x)))
  (hjo:∀ bn,C lb n Qbm [.list bn (scv (c.l.map wrC)), .str [44,32]] = some (.str (Lib.join (c.l.map wrC) [44,32]))) :
  ∀ t p,p ++ t = c.l → ∀ k,t.length < k → ∀ bn,Qgb lb n k c.k c.ln (c.l.map ccv) c.a c.b c.fr c.to c.days c.tn (scv c.t) bn (scv (p.map wrC)) (p.length:Int) = some (.str (wrC c))
 | [],p,hp,k,hk',bn => by
  obtain ⟨k,rfl⟩ : ∃ j,k = j + 1 := ⟨k - 1,by simp at hk'; omega⟩
  obtain rfl:p = c.l := by simpa using hp
  rw [Qir]
  refine stF (decF (by rw [List.length_map]; omega)) ?_
  rw [Qp8]
  refine stO _ (hjo bn) (stO _ rfl (stC (decT (by (simp only [List.length_append, List.length_cons, List.length_nil]; omega))) (stC (decT (by (simp only [List.length_append, List.length_cons, List.length_nil]; omega))) ?_)))
  rw [Qcp,hk,if_pos (by decide)]
  simp [kwd,kws]
 | x :: t,p,hp,k,hk',bn => by
  obtain ⟨k,rfl⟩ : ∃ j,k = j + 1 := ⟨k - 1,by simp at hk'; omega⟩
  have hpl:c.l.length = p.length + (t.length + 1) := by rw [← hp]; simp
  have hat := QfB (l := c.l) (i := p.length) (x := x) (by rw [← hp]; simp)
  rw [Qir]
  refine stT (decT (by rw [List.length_map]; omega)) (stO _ hat (stC rfl (stO _ rfl (stO _ rfl (stO _ rfl (stO _ rfl (stO _ rfl (stO _ rfl (stO _ rfl (stO _ rfl (stO _ (hs x (by rw [← hp]; simp)) (stC rfl (stC (QdW (by rw [Qas,List.length_map]; omega)) ?_)))))))))))))
  rw [Qad (by omega) (by omega),show (p.length:Int) + 1 = ((p ++ [x]).length:Int) by simp]
  have e:scv (p.map wrC) ++ [[CV.str (wrC x)]] = scv ((p ++ [x]).map wrC) := by simp [scv]
  rw [e]
  exact Qwh c hk hl hj n hs hjo t (p ++ [x]) (by rw [← hp]; simp) k (by simp at hk'; omega) _
theorem QsA:∀ c:Cd,Wok c → Ret lb Qaj [cdv c] (.str (wrC c)) := by
 refine Qg9 lb (fun c h x hx => Qxl c h x hx) fun c hc hs => .top rfl (.eq (fun n => by rw [Qui]) ?_)
 obtain ⟨k1,k2,_,_⟩ := QdY (QcC hc.1).1
 have hlen := hc.2
 have hks:c.k = 1 ∨ c.k = 2 ∨ c.k = 3 ∨ c.k = 4 ∨ c.k = 5 ∨ c.k = 6 ∨ c.k = 7 ∨ c.k = 8 ∨ c.k = 9 ∨ c.k = 10 ∨ c.k = 11 ∨ c.k = 12 ∨ c.k = 13 ∨ c.k = 14 := by omega
 have ne:∀ i:Int,c.k ≠ i → (c.k == i) = false := fun i h => beqF h
 rcases hks with hk | hk | hk | hk | hk | hk | hk | hk | hk | hk | hk | hk | hk | hk
 ·have e:wrC c = kwd 1 := by rw [wr0 (by rw [hk]; rfl) (by show Qc6 _ _ _ _ _ _ _ = _; rw [hk]; rfl),hk]
  rw [e]
  exact .all fun n => stT (beqT hk) (stF (ne _ (by omega)) (by rw [Qqd]; rfl))
 ·obtain ⟨l1,l2⟩ := Qr8 hc (by rw [hk]; rfl)
  have ej := fun bn => QhP lb bn (c.l.map wrC) [44,32] (by rw [List.length_map]; omega) (by omega)
  exact Evt.imp2 hs (Evt.and (Evt.and (ej true) (ej false)) (Evt.ge (c.l.length + 1))) fun n h1 ⟨⟨h2,h3⟩,hn⟩ => stF (ne _ (by omega)) (stT (beqT hk) (QvX lb c hk l1 l2 n h1 (fun bn => by cases bn; exact h3; exact h2) c.l [] rfl n (by omega) true))
 ·obtain ⟨l1,l2⟩ := Qr8 hc (by rw [hk]; rfl)
  have ej := fun bn => QhP lb bn (c.l.map wrC) [44,32] (by rw [List.length_map]; omega) (by omega)
  exact Evt.imp2 hs (Evt.and (Evt.and (ej true) (ej false)) (Evt.ge (c.l.length + 1))) fun n h1 ⟨⟨h2,h3⟩,hn⟩ => stF (ne _ (by omega)) (stF (ne _ (by omega)) (stT (beqT hk) (QuJ lb c hk l1 l2 n h1 (fun bn => by cases bn; exact h3; exact h2) c.l [] rfl n (by omega) true)))
 ·obtain ⟨l1,l2⟩ := Qr8 hc (by rw [hk]; rfl)
  have ej := fun bn => QhP lb bn (c.l.map wrC) [44,32] (by rw [List.length_map]; omega) (by omega)
  exact Evt.imp2 hs (Evt.and (Evt.and (ej true) (ej false)) (Evt.ge (c.l.length + 1))) fun n h1 ⟨⟨h2,h3⟩,hn⟩ => stF (ne _ (by omega)) (stF (ne _ (by omega)) (stF (ne _ (by omega)) (stT (beqT hk) (Qwh lb c hk l1 l2 n h1 (fun bn => by cases bn; exact h3; exact h2) c.l [] rfl n (by omega) true))))
 ·have e := wr1 (c := c) (x := perS c.fr c.to c.days) (by rw [hk]; rfl) (by show Qc6 _ _ _ _ _ _ _ = _; rw [hk]; rfl)
  have hp := Qmc c.fr c.to c.days
  rw [hk] at e
  rw [e]
  exact (QjM lb c.fr c.to c.days).mono fun n a => stF (ne _ (by omega)) (stF (ne _ (by omega)) (stF (ne _ (by omega)) (stF (ne _ (by omega)) (stT (beqT hk) (stO _ a (stO _ rfl (stC (decT (by (simp only [List.length_append, List.length_cons, List.length_nil]; omega))) rfl)))))))
 ·have e := wr1 (c := c) (x := perS c.fr c.to c.days) (by rw [hk]; rfl) (by show Qc6 _ _ _ _ _ _ _ = _; rw [hk]; rfl)
  have hp := Qmc c.fr c.to c.days
  rw [hk] at e
  rw [e]
  exact (QjM lb c.fr c.to c.days).mono fun n a => stF (ne _ (by omega)) (stF (ne _ (by omega)) (stF (ne _ (by omega)) (stF (ne _ (by omega)) (stF (ne _ (by omega)) (stT (beqT hk) (stO _ a (stO _ rfl (stC (decT (by (simp only [List.length_append, List.length_cons, List.length_nil]; omega))) rfl))))))))
 ·have e := wr1 (c := c) (x := Lib.itoa c.a) (by rw [hk]; rfl) (by show Qc6 _ _ _ _ _ _ _ = _; rw [hk]; rfl)
  have hb : -9223372036854775808 ≤ c.a ∧ c.a ≤ 9223372036854775807 := by
   rcases Qor hc with h | h | h
   ·omega
   ·rw [hk] at h; exact absurd h (by decide)
   ·omega
  have hp := Qdp hb.1 hb.2
  rw [hk] at e
  rw [e]
  exact (QdH lb c.a hb.1 hb.2).mono fun n a => stF (ne _ (by omega)) (stF (ne _ (by omega)) (stF (ne _ (by omega)) (stF (ne _ (by omega)) (stF (ne _ (by omega)) (stF (ne _ (by omega)) (stT (beqT hk) (stF (ne _ (by omega)) (stO _ a (stO _ rfl (stC (decT (by (simp only [List.length_append, List.length_cons, List.length_nil]; omega))) rfl))))))))))
 ·have e := wr2 (c := c) (x := clkS c.a) (y := clkS c.b) (by rw [hk]; rfl) (by show Qc6 _ _ _ _ _ _ _ = _; rw [hk]; rfl)
  have hp := QhJ c.a
  have hq := QhJ c.b
  rw [hk] at e
  rw [e]
  exact Evt.imp2 (Qiv lb c.a) (Qiv lb c.b) fun n a b => stF (ne _ (by omega)) (stF (ne _ (by omega)) (stF (ne _ (by omega)) (stF (ne _ (by omega)) (stF (ne _ (by omega)) (stF (ne _ (by omega)) (stF (ne _ (by omega)) (stT (beqT hk) (stT (beqT hk) (stO _ a (stO _ rfl (stC (decT (by (simp only [List.length_append, List.length_cons, List.length_nil]; omega))) (stC (decT (by (simp only [List.length_append, List.length_cons, List.length_nil]; omega))) (stO _ b (stO _ rfl (stC (decT (by (simp only [List.length_append, List.length_cons, List.length_nil]; omega))) rfl)))))))))))))))
 ·have e := wr1 (c := c) (x := Lib.itoa c.a) (by rw [hk]; rfl) (by show Qc6 _ _ _ _ _ _ _ = _; rw [hk]; rfl)
  have hb : -9223372036854775808 ≤ c.a ∧ c.a ≤ 9223372036854775807 := by
   rcases Qor hc with h | h | h
   ·omega
   ·rw [hk] at h; exact absurd h (by decide)
   ·omega
  have hp := Qdp hb.1 hb.2
  rw [hk] at e
  rw [e]
  exact (QdH lb c.a hb.1 hb.2).mono fun n a => stF (ne _ (by omega)) (stF (ne _ (by omega)) (stF (ne _ (by omega)) (stF (ne _ (by omega)) (stF (ne _ (by omega)) (stF (ne _ (by omega)) (stF (ne _ (by omega)) (stF (ne _ (by omega)) (stT (beqT hk) (stF (ne _ (by omega)) (stO _ a (stO _ rfl (stC (decT (by (simp only [List.length_append, List.length_cons, List.length_nil]; omega))) rfl))))))))))))
 ·have e := wr1 (c := c) (x := Lib.itoa c.a) (by rw [hk]; rfl) (by show Qc6 _ _ _ _ _ _ _ = _; rw [hk]; rfl)
  have hb : -9223372036854775808 ≤ c.a ∧ c.a ≤ 9223372036854775807 := by
   rcases Qor hc with h | h | h
   ·omega
   ·rw [hk] at h; exact absurd h (by decide)
   ·omega
  have hp := Qdp hb.1 hb.2
  rw [hk] at e
  rw [e]
  exact (QdH lb c.a hb.1 hb.2).mono fun n a => stF (ne _ (by omega)) (stF (ne _ (by omega)) (stF (ne _ (by omega)) (stF (ne _ (by omega)) (stF (ne _ (by omega)) (stF (ne _ (by omega)) (stF (ne _ (by omega)) (stF (ne _ (by omega)) (stF (ne _ (by omega)) (stT (beqT hk) (stF (ne _ (by omega)) (stO _ a (stO _ rfl (stC (decT (by (simp only [List.length_append, List.length_cons, List.length_nil]; omega))) rfl)))))))))))))
 ·have ht := QpP hc (by rw [hk]; rfl)
  have ea:c.args = c.t := by show Qc6 _ _ _ _ _ _ _ = _; rw [hk]; rfl
  have e := wrt (c := c) (by rw [hk]; rfl) (by rw [ea]; exact ht)
  rw [ea] at e
  rw [e] at hlen
  simp only [List.length_append] at hlen
  have hcnt := Qkc c.t [32] (by simp)
  rw [hk] at e
  rw [e]
  exact (QhP lb c.tn c.t [32] (by omega) (by omega)).mono fun n a => stF (ne _ (by omega)) (stF (ne _ (by omega)) (stF (ne _ (by omega)) (stF (ne _ (by omega)) (stF (ne _ (by omega)) (stF (ne _ (by omega)) (stF (ne _ (by omega)) (stF (ne _ (by omega)) (stF (ne _ (by omega)) (stF (ne _ (by omega)) (stT (beqT hk) (stO _ a (stO _ rfl (stC (decT (by (simp only [List.length_append, List.length_cons, List.length_nil]; omega))) rfl)))))))))))))
 ·have e := wr2 (c := c) (x := Lib.itoa c.a) (y := Lib.itoa c.b) (by rw [hk]; rfl) (by show Qc6 _ _ _ _ _ _ _ = _; rw [hk]; rfl)
  have hb : -9223372036854775808 ≤ c.a ∧ c.a ≤ 9223372036854775807 ∧ -9223372036854775808 ≤ c.b ∧ c.b ≤ 9223372036854775807 := by
   rcases Qor hc with h | h | h
   ·omega
   ·rw [hk] at h; exact absurd h (by decide)
   ·have h := h.1; rw [hk] at h; exact absurd h (by decide)
  have hp := Qdp hb.1 hb.2.1
  have hq := Qdp hb.2.2.1 hb.2.2.2
  rw [hk] at e
  rw [e]
  exact Evt.imp2 (QdH lb c.a hb.1 hb.2.1) (QdH lb c.b hb.2.2.1 hb.2.2.2) fun n a b => stF (ne _ (by omega)) (stF (ne _ (by omega)) (stF (ne _ (by omega)) (stF (ne _ (by omega)) (stF (ne _ (by omega)) (stF (ne _ (by omega)) (stF (ne _ (by omega)) (stF (ne _ (by omega)) (stF (ne _ (by omega)) (stF (ne _ (by omega)) (stF (ne _ (by omega)) (stT (beqT hk) (stF (ne _ (by omega)) (stO _ a (stO _ rfl (stC (decT (by (simp only [List.length_append, List.length_cons, List.length_nil]; omega))) (stC (decT (by (simp only [List.length_append, List.length_cons, List.length_nil]; omega))) (stO _ b (stO _ rfl (stC (decT (by (simp only [List.length_append, List.length_cons, List.length_nil]; omega))) rfl)))))))))))))))))))
 ·have ht := QpP hc (by rw [hk]; rfl)
  have ea:c.args = c.t := by show Qc6 _ _ _ _ _ _ _ = _; rw [hk]; rfl
  have e := wrt (c := c) (by rw [hk]; rfl) (by rw [ea]; exact ht)
  rw [ea] at e
  rw [e] at hlen
  simp only [List.length_append] at hlen
  have hcnt := Qkc c.t [32] (by simp)
  rw [hk] at e
  rw [e]
  exact (QhP lb c.tn c.t [32] (by omega) (by omega)).mono fun n a => stF (ne _ (by omega)) (stF (ne _ (by omega)) (stF (ne _ (by omega)) (stF (ne _ (by omega)) (stF (ne _ (by omega)) (stF (ne _ (by omega)) (stF (ne _ (by omega)) (stF (ne _ (by omega)) (stF (ne _ (by omega)) (stF (ne _ (by omega)) (stF (ne _ (by omega)) (stF (ne _ (by omega)) (stT (beqT hk) (stO _ a (stO _ rfl (stC (decT (by (simp only [List.length_append, List.length_cons, List.length_nil]; omega))) rfl)))))))))))))))
 ·have ht := QpP hc (by rw [hk]; rfl)
  have ea:c.args = c.t := by show Qc6 _ _ _ _ _ _ _ = _; rw [hk]; rfl
  have e := wrt (c := c) (by rw [hk]; rfl) (by rw [ea]; exact ht)
  rw [ea] at e
  rw [e] at hlen
  simp only [List.length_append] at hlen
  have hcnt := Qkc c.t [32] (by simp)
  rw [hk] at e
  rw [e]
  exact (QhP lb c.tn c.t [32] (by omega) (by omega)).mono fun n a => stF (ne _ (by omega)) (stF (ne _ (by omega)) (stF (ne _ (by omega)) (stF (ne _ (by omega)) (stF (ne _ (by omega)) (stF (ne _ (by omega)) (stF (ne _ (by omega)) (stF (ne _ (by omega)) (stF (ne _ (by omega)) (stF (ne _ (by omega)) (stF (ne _ (by omega)) (stF (ne _ (by omega)) (stF (ne _ (by omega)) (stT (beqT hk) (stO _ a (stO _ rfl (stC (decT (by (simp only [List.length_append, List.length_cons, List.length_nil]; omega))) rfl))))))))))))))))
def prV (c:Cd):Bs × Int := if QcT c ≠ 0 then ([],QcT c) else if ((wrC c).length:Int) > 65536 then ([],4) else (wrC c,0)
theorem Qlv (c:Cd) (hf:Fits c) (hs:tsz c ≤ 1000000) (hw:QcT c = 0 → (wrC c).length ≤ 100000000):Ret lb Qg8 [cdv c] (.tup [.str (prV c).1, .int .i64 (prV c).2]) := by
 refine .top rfl (.eq (fun n => by rw [Qua]) ?_)
 have e0 := Qsw lb c hf hs
 unfold prV
 by_cases h0:QcT c ≠ 0
 ·rw [if_pos h0]
  exact e0.mono fun n a => stO _ a (stO _ (Qai ..) (stT (bneT h0) rfl))
 rw [if_neg h0]
 have h0 := Classical.byContradiction h0
 obtain ⟨_,hp,_⟩ := QeZ hs h0
 have e1 := QsA lb c ⟨hp,hw h0⟩
 by_cases h1:((wrC c).length:Int) > 65536
 ·rw [if_pos h1]
  exact Evt.imp2 e0 e1 fun n a b => stO _ a (stO _ (Qai ..) (stF (bneF h0) (stO _ b (stO _ rfl (stT (decT h1) rfl)))))
 ·rw [if_neg h1]
  exact Evt.imp2 e0 e1 fun n a b => stO _ a (stO _ (Qai ..) (stF (bneF h0) (stO _ b (stO _ rfl (stF (decF h1) rfl)))))
end Go.Proofs
set_option linter.unusedVariables false
set_option linter.unusedSimpArgs false
namespace Go.Proofs
open Go.Am
variable (lb:Nat)
def minF (s:Bs):Int × Int :=
 match s with
 | [a,b,c,d,e] => if (c.toNat:Int) ≠ 58 then (0,3) else match digV 0 [a,b],digV 0 [d,e] with
  | some h,some m => if h > 23 then (0,13) else if m > 59 then (0,13) else (60 * h + m,0)
  | _,_ => (0,3)
 | _ => (0,3)
theorem five {s:Bs} (h:s.length = 5):∃ a b c d e,s = [a,b,c,d,e] := by
 match s,h with
 | [a,b,c,d,e],_ => exact ⟨a,b,c,d,e,rfl⟩
theorem Qut (a b c d e:UInt8):minF [a,b,c,d,e] = (if (c.toNat:Int) ≠ 58 then (0,3) else match digV 0 [a,b],digV 0 [d,e] with
  | some h,some m => if h > 23 then (0,13) else if m > 59 then (0,13) else (60 * h + m,0)
  | _,_ => (0,3):Int × Int) := rfl
theorem Qu7 {s:Bs} (h:s.length ≠ 5):minF s = (0,3) := by
 unfold minF
 split
 ·exact absurd rfl h
 ·rfl
theorem Qjq {a b:UInt8} {v:Int} (h:digV 0 [a,b] = some v):0 ≤ v ∧ v ≤ 99 := by
 have := Qg3 [a,b] 0 v 0 (by omega) (by omega) h
 simp at this
 omega
theorem Qnj (s:Bs):Ret lb QcH [.str s] (QeC (minF s)) := by
 refine .top rfl (.eq (fun n => by rw [Qnr]) ?_)
 by_cases h5:s.length = 5
 ·obtain ⟨a,b,c,d,e,rfl⟩ := five h5
  by_cases hc:(c.toNat:Int) ≠ 58
  ·refine .all fun n => stF rfl (stO _ rfl (stT (bneT hc) ?_))
   rw [Qut,if_pos hc]
   rfl
  have e1 := QcU lb [a,b] (by simp)
  have e2 := QcU lb [d,e] (by simp)
  have hm:minF [a,b,c,d,e] = (match digV 0 [a,b],digV 0 [d,e] with
   | some h,some m => if h > 23 then (0,13) else if m > 59 then (0,13) else (60 * h + m,0)
   | _,_ => (0,3):Int × Int) := by rw [Qut,if_neg hc]
  rw [hm]
  have hc := Classical.byContradiction hc
  refine Evt.imp2 e1 e2 fun n x y => stF rfl (stO _ rfl (stF (bneF hc) (stC rfl (stO _ x ?_))))
  cases h1:digV 0 [a,b] with
  | none => exact stO _ rfl (stO _ rfl (stO _ rfl (stO _ rfl (stC rfl (stO _ y (by cases digV 0 [d,e] <;> rfl))))))
  | some h =>
   have r1 := Qjq h1
   cases h2:digV 0 [d,e] with
   | none =>
    rw [h2] at y
    exact stO _ rfl (stO _ rfl (stO _ rfl (stO _ rfl (stC rfl (stO _ y rfl)))))
   | some m =>
    rw [h2] at y
    have r2 := Qjq h2
    refine stO _ rfl (stO _ rfl (stO _ rfl (stO _ rfl (stC rfl (stO _ y (stO _ rfl (stO _ rfl (stO _ rfl (stO _ rfl (stO _ rfl (stF rfl (stO _ rfl (stF rfl (stO _ (Qai ..) ?_))))))))))))))
    show _ = some (QeC (if h > 23 then (0,13) else if m > 59 then (0,13) else (60 * h + m,0):Int × Int))
    by_cases q1:h > 23
    ·rw [if_pos q1]; exact stT (decT q1) rfl
    rw [if_neg q1]
    refine stF (decF q1) (stO _ (Qai ..) ?_)
    by_cases q2:m > 59
    ·rw [if_pos q2]; exact stT (decT q2) rfl
    rw [if_neg q2]
    refine stF (decF q2) (stO _ (Qai ..) (stO _ (Qai ..) ?_))
    rw [Qad (x := 60 * h) (by omega) (by omega),Qad (by omega) (by omega)]
    rfl
 ·rw [Qu7 h5]
  exact .all fun n => stT (bneT (by omega)) rfl
theorem Qsa (s:Bs):Ret lb Qfp [.str s] (QeC (minF s)) := by
 refine .top rfl (.eq (fun n => by rw [QtU]) ?_)
 by_cases h5:s.length = 5
 ·obtain ⟨a,b,c,d,e,rfl⟩ := five h5
  by_cases hc:(c.toNat:Int) ≠ 58
  ·refine .all fun n => stF rfl (stO _ rfl (stT (bneT hc) ?_))
   rw [Qut,if_pos hc]
   rfl
  have e1 := Qen lb [a,b,c,d,e] [] [a,b] [c,d,e] rfl (by simp)
  have e2 := Qen lb [a,b,c,d,e] [a,b,c] [d,e] [] rfl (by simp)
  have hm:minF [a,b,c,d,e] = (match digV 0 [a,b],digV 0 [d,e] with
   | some h,some m => if h > 23 then (0,13) else if m > 59 then (0,13) else (60 * h + m,0)
   | _,_ => (0,3):Int × Int) := by rw [Qut,if_neg hc]
  rw [hm]
  have hc := Classical.byContradiction hc
  refine Evt.imp2 e1 e2 fun n x y => stF rfl (stO _ rfl (stF (bneF hc) (stO _ x (stO _ (Qai ..) ?_))))
  cases h1:digV 0 [a,b] with
  | none => exact stT rfl rfl
  | some h =>
   have r1 := Qjq h1
   rw [h1] at x
   refine stF (decF (by show ¬ h < 0; omega)) (stO _ y (stO _ (Qai ..) ?_))
   cases h2:digV 0 [d,e] with
   | none => exact stT rfl rfl
   | some m =>
    rw [h2] at y
    have r2 := Qjq h2
    refine stF (decF (by show ¬ m < 0; omega)) (stO _ x (stO _ y (stO _ (Qai ..) ?_)))
    show (bif decide (h > 23) then _ else _) = some (QeC (if h > 23 then (0,13) else if m > 59 then (0,13) else (60 * h + m,0):Int × Int))
    by_cases q1:h > 23
    ·rw [if_pos q1]; exact stT (decT q1) rfl
    rw [if_neg q1]
    refine stF (decF q1) (stO _ (Qai ..) ?_)
    show (bif decide (m > 59) then _ else _) = _
    by_cases q2:m > 59
    ·rw [if_pos q2]; exact stT (decT q2) rfl
    rw [if_neg q2]
    refine stF (decF q2) (stO _ (Qai ..) (stO _ (Qai ..) ?_))
    show some (CV.tup [.int .i64 (IntKind.wrap .i64 (IntKind.wrap .i64 (60 * h) + m)), .int .i64 0]) = _
    rw [Qad (x := 60 * h) (by omega) (by omega),Qad (by omega) (by omega)]
    rfl
 ·rw [Qu7 h5]
  exact .all fun n => stT (bneT (by omega)) rfl
theorem Qy5:∀ m:Fin 1440,minF (clkS (m.val:Int)) = ((m.val:Int),0) := by decide +kernel
def perT (s:Bs):(Int × Int × Int) × Int := match perP s with
 | .tup [.agg [.int _ f, .int _ t, .int _ d], .int _ e] => ((f,t,d),e)
 | _ => ((0,0,0),0)
theorem QnN (s:Bs):perP s = .tup [.agg [.int .i64 (perT s).1.1, .int .i64 (perT s).1.2.1, .int .i64 (perT s).1.2.2], .int .i64 (perT s).2] := by
 have h:∃ f t d e:Int,perP s = .tup [.agg [.int .i64 f, .int .i64 t, .int .i64 d], .int .i64 e] := by
  unfold perP finV
  split
  ·split
   ·exact ⟨0,0,0,_,rfl⟩
   split
   ·exact ⟨0,0,0,_,rfl⟩
   split
   ·exact ⟨0,0,0,_,rfl⟩
   split
   ·exact ⟨0,0,0,_,rfl⟩
   ·exact ⟨_,_,_,_,rfl⟩
  ·exact ⟨0,0,0,_,rfl⟩
 obtain ⟨f,t,d,e,h⟩ := h
 unfold perT
 rw [h]
def mkL (k a b fr to days:Int) (tn:Bool) (t:List Bs):Cd := .mk k true [] a b fr to days tn t
def QgU (s:Bs):Nat → Int → Int
 | 0,_ => 0
 | j + 1,i => if kwd i = s then i else QgU s j (i + 1)
def QbR (s:Bs):Int := QgU s 14 1
theorem Qz3:∀ k:Fin 15,1 ≤ k.val → QbR (kwd (k.val:Int)) = (k.val:Int) := by decide
theorem Qkf {k:Int} (h0:1 ≤ k) (h1:k ≤ 14):QbR (kwd k) = k := by
 have := Qz3 ⟨k.toNat,by omega⟩ (by show 1 ≤ k.toNat; omega)
 have e:((k.toNat:Nat):Int) = k := by omega
 simpa [e] using this
def Qc9 (k:Int) (args:List Bs):Option Cd :=
 if isc k = true then some (mkL k 0 0 0 0 0 false args)
 else if isp k = true then match args with
  | [x] => if (perT x).2 = 0 then some (mkL k 0 0 (perT x).1.1 (perT x).1.2.1 (perT x).1.2.2 true []) else none
  | _ => none
 else if k = 8 then match args with
  | [x,y] => if (minF x).2 = 0 ∧ (minF y).2 = 0 then some (mkL k (minF x).1 (minF y).1 0 0 0 true []) else none
  | _ => none
 else if nums k > 1 then match args with
  | [x,y] => if (numB x).2 = 0 ∧ (numB y).2 = 0 then some (mkL k (numB x).1 (numB y).1 0 0 0 true []) else none
  | _ => none
 else if nums k > 0 then match args with
  | [x] => if (numB x).2 = 0 then some (mkL k (numB x).1 0 0 0 0 true []) else none
  | _ => none
 else some (mkL k 0 0 0 0 0 true [])
def Qha:List Bs → Option Cd
 | [] => none
 | h :: args => if QbR h = 0 then none else if isl (QbR h) = true then none else Qc9 (QbR h) args
def Qbd (o:Option Cd):CV := match o with
 | some c => cdv c
 | none => .err
end Go.Proofs
set_option linter.unusedVariables false
set_option linter.unusedSimpArgs false
set_option maxRecDepth 100000
namespace Go.Proofs
open Go.Am
theorem QcQ {f:FuncId} {args:List CV} {r:CV} (hf:(f == Qat) = false) (h:Ret 1 f args r):Evt fun n => ∀ lb,K3.C lb n f args = some r :=
 h.mono fun n hn lb => by
  show (bif f == Qat then K5.any args else Qbw Tryz.prog KK (L1 1) n f args) = some r
  rw [hf,cond_false, ← L_1]
  exact hn
theorem QzC (lb:Nat):Ret lb Qax [.int .i64 1] (.agg [.str (kwd 1), .int .i64 0, .int .i64 0, .int .i64 (-1), .int .i64 (-1), .bool false, .nilfn, .bool false, .bool true]) := .top rfl (.all fun n => by rw [Qa8]; rfl)
theorem Qs3 (lb:Nat):Ret lb Qax [.int .i64 2] (.agg [.str (kwd 2), .int .i64 1, .int .i64 128, .int .i64 (-1), .int .i64 (-1), .bool false, .nilfn, .bool false, .bool true]) := .top rfl (.all fun n => by rw [Qa8]; rfl)
theorem QsN (lb:Nat):Ret lb Qax [.int .i64 3] (.agg [.str (kwd 3), .int .i64 1, .int .i64 128, .int .i64 (-1), .int .i64 (-1), .bool false, .nilfn, .bool false, .bool true]) := .top rfl (.all fun n => by rw [Qa8]; rfl)
theorem QsY (lb:Nat):Ret lb Qax [.int .i64 4] (.agg [.str (kwd 4), .int .i64 1, .int .i64 1, .int .i64 (-1), .int .i64 (-1), .bool false, .nilfn, .bool false, .bool true]) := .top rfl (.all fun n => by rw [Qa8]; rfl)
theorem QyS (lb:Nat):Ret lb Qax [.int .i64 5] (.agg [.str (kwd 5), .int .i64 0, .int .i64 0, .int .i64 (-1), .int .i64 (-1), .bool true, .nilfn, .bool false, .bool true]) := .top rfl (.all fun n => by rw [Qa8]; rfl)
theorem Qy3 (lb:Nat):Ret lb Qax [.int .i64 6] (.agg [.str (kwd 6), .int .i64 0, .int .i64 0, .int .i64 (-1), .int .i64 (-1), .bool true, .nilfn, .bool false, .bool true]) := .top rfl (.all fun n => by rw [Qa8]; rfl)
theorem QzP (lb:Nat):Ret lb Qax [.int .i64 7] (.agg [.str (kwd 7), .int .i64 0, .int .i64 0, .int .i64 (36524), .int .i64 (-1), .bool false, .nilfn, .bool false, .bool true]) := .top rfl (.all fun n => by rw [Qa8]; rfl)
theorem QzN (lb:Nat):Ret lb Qax [.int .i64 8] (.agg [.str (kwd 8), .int .i64 0, .int .i64 0, .int .i64 (1439), .int .i64 (1439), .bool false, .nilfn, .bool false, .bool true]) := .top rfl (.all fun n => by rw [Qa8]; rfl)
theorem Qy6 (lb:Nat):Ret lb Qax [.int .i64 9] (.agg [.str (kwd 9), .int .i64 0, .int .i64 0, .int .i64 (6), .int .i64 (-1), .bool false, .nilfn, .bool false, .bool true]) := .top rfl (.all fun n => by rw [Qa8]; rfl)
theorem QyA (lb:Nat):Ret lb Qax [.int .i64 10] (.agg [.str (kwd 10), .int .i64 0, .int .i64 0, .int .i64 (6), .int .i64 (-1), .bool false, .nilfn, .bool false, .bool true]) := .top rfl (.all fun n => by rw [Qa8]; rfl)
theorem QxZ (lb:Nat):Ret lb Qax [.int .i64 11] (.agg [.str (kwd 11), .int .i64 0, .int .i64 0, .int .i64 (-1), .int .i64 (-1), .bool false, .fn QaZ, .bool false, .bool true]) := .top rfl (.all fun n => by rw [Qa8]; rfl)
theorem Qyz (lb:Nat):Ret lb Qax [.int .i64 12] (.agg [.str (kwd 12), .int .i64 0, .int .i64 0, .int .i64 (9999), .int .i64 (9999), .bool false, .nilfn, .bool true, .bool true]) := .top rfl (.all fun n => by rw [Qa8]; rfl)
theorem Qym (lb:Nat):Ret lb Qax [.int .i64 13] (.agg [.str (kwd 13), .int .i64 0, .int .i64 0, .int .i64 (-1), .int .i64 (-1), .bool false, .fn QaY, .bool false, .bool true]) := .top rfl (.all fun n => by rw [Qa8]; rfl)
theorem QyH (lb:Nat):Ret lb Qax [.int .i64 14] (.agg [.str (kwd 14), .int .i64 0, .int .i64 0, .int .i64 (-1), .int .i64 (-1), .bool false, .fn QaP, .bool false, .bool true]) := .top rfl (.all fun n => by rw [Qa8]; rfl)
structure LeafF (lb n:Nat) (args:List Bs):Prop where
 f1:K3.C lb n Qax [.int .i64 1] = some (.agg [.str (kwd 1), .int .i64 0, .int .i64 0, .int .i64 (-1), .int .i64 (-1), .bool false, .nilfn, .bool false, .bool true])
 f2:K3.C lb n Qax [.int .i64 2] = some (.agg [.str (kwd 2), .int .i64 1, .int .i64 128, .int .i64 (-1), .int .i64 (-1), .bool false, .nilfn, .bool false, .bool true])
 f3:K3.C lb n Qax [.int .i64 3] = some (.agg [.str (kwd 3), .int .i64 1, .int .i64 128, .int .i64 (-1), .int .i64 (-1), .bool false, .nilfn, .bool false, .bool true])
 f4:K3.C lb n Qax [.int .i64 4] = some (.agg [.str (kwd 4), .int .i64 1, .int .i64 1, .int .i64 (-1), .int .i64 (-1), .bool false, .nilfn, .bool false, .bool true])
 f5:K3.C lb n Qax [.int .i64 5] = some (.agg [.str (kwd 5), .int .i64 0, .int .i64 0, .int .i64 (-1), .int .i64 (-1), .bool true, .nilfn, .bool false, .bool true])
 f6:K3.C lb n Qax [.int .i64 6] = some (.agg [.str (kwd 6), .int .i64 0, .int .i64 0, .int .i64 (-1), .int .i64 (-1), .bool true, .nilfn, .bool false, .bool true])
 f7:K3.C lb n Qax [.int .i64 7] = some (.agg [.str (kwd 7), .int .i64 0, .int .i64 0, .int .i64 (36524), .int .i64 (-1), .bool false, .nilfn, .bool false, .bool true])
 f8:K3.C lb n Qax [.int .i64 8] = some (.agg [.str (kwd 8), .int .i64 0, .int .i64 0, .int .i64 (1439), .int .i64 (1439), .bool false, .nilfn, .bool false, .bool true])
 f9:K3.C lb n Qax [.int .i64 9] = some (.agg [.str (kwd 9), .int .i64 0, .int .i64 0, .int .i64 (6), .int .i64 (-1), .bool false, .nilfn, .bool false, .bool true])
 f10:K3.C lb n Qax [.int .i64 10] = some (.agg [.str (kwd 10), .int .i64 0, .int .i64 0, .int .i64 (6), .int .i64 (-1), .bool false, .nilfn, .bool false, .bool true])
 f11:K3.C lb n Qax [.int .i64 11] = some (.agg [.str (kwd 11), .int .i64 0, .int .i64 0, .int .i64 (-1), .int .i64 (-1), .bool false, .fn QaZ, .bool false, .bool true])
 f12:K3.C lb n Qax [.int .i64 12] = some (.agg [.str (kwd 12), .int .i64 0, .int .i64 0, .int .i64 (9999), .int .i64 (9999), .bool false, .nilfn, .bool true, .bool true])
 f13:K3.C lb n Qax [.int .i64 13] = some (.agg [.str (kwd 13), .int .i64 0, .int .i64 0, .int .i64 (-1), .int .i64 (-1), .bool false, .fn QaY, .bool false, .bool true])
 f14:K3.C lb n Qax [.int .i64 14] = some (.agg [.str (kwd 14), .int .i64 0, .int .i64 0, .int .i64 (-1), .int .i64 (-1), .bool false, .fn QaP, .bool false, .bool true])
 per:∀ x ∈ args,K3.C lb n Qek [.str x] = some (perP x)
 min:∀ x ∈ args,K3.C lb n QcH [.str x] = some (QeC (minF x))
 num:∀ x ∈ args,K3.C lb n Qdn [.str x] = some (numR x)
theorem Qzl (args:List Bs) (ha:∀ x ∈ args,x.length ≤ 1000000000):Evt fun n => ∀ lb,LeafF lb n args := by
 have e1:Evt fun n => ∀ x ∈ args, ∀ lb,K3.C lb n Qek [.str x] = some (perP x) := Evt.fin args fun x hx => QcQ rfl (Qp0 1 x (ha x hx))
 have e2:Evt fun n => ∀ x ∈ args, ∀ lb,K3.C lb n QcH [.str x] = some (QeC (minF x)) := Evt.fin args fun x hx => QcQ rfl (Qnj 1 x)
 have e3:Evt fun n => ∀ x ∈ args, ∀ lb,K3.C lb n Qdn [.str x] = some (numR x) := Evt.fin args fun x hx => QcQ rfl (Qq5 0 x (ha x hx))
 have g1 := QcQ rfl (QzC 1)
 have g2 := QcQ rfl (Qs3 1)
 have g3 := QcQ rfl (QsN 1)
 have g4 := QcQ rfl (QsY 1)
 have g5 := QcQ rfl (QyS 1)
 have g6 := QcQ rfl (Qy3 1)
 have g7 := QcQ rfl (QzP 1)
 have g8 := QcQ rfl (QzN 1)
 have g9 := QcQ rfl (Qy6 1)
 have g10 := QcQ rfl (QyA 1)
 have g11 := QcQ rfl (QxZ 1)
 have g12 := QcQ rfl (Qyz 1)
 have g13 := QcQ rfl (Qym 1)
 have g14 := QcQ rfl (QyH 1)
 refine (g1.and (g2.and (g3.and (g4.and (g5.and (g6.and (g7.and (g8.and (g9.and (g10.and (g11.and (g12.and (g13.and (g14.and (e1.and (e2.and e3)))))))))))))))).mono fun n h lb => ?_
 obtain ⟨h1,h2,h3,h4,h5,h6,h7,h8,h9,h10,h11,h12,h13,h14,p1,p2,p3⟩ := h
 exact ⟨h1 lb,h2 lb,h3 lb,h4 lb,h5 lb,h6 lb,h7 lb,h8 lb,h9 lb,h10 lb,h11 lb,h12 lb,h13 lb,h14 lb,fun x hx => p1 x hx lb,fun x hx => p2 x hx lb,fun x hx => p3 x hx lb⟩
def resF (j:Nat) (i:Int) (h:Bs) (args:List Bs):Option Cd := if QgU h j i = 0 then none else if isl (QgU h j i) = true then none else Qc9 (QgU h j i) args
theorem Qdh {j:Nat} {i:Int} {h:Bs} {args:List Bs} (hh:¬ kwd i = h):resF (j + 1) i h args = resF j (i + 1) h args := by
 unfold resF
 rw [QgU,if_neg hh]
theorem QdN {j:Nat} {i:Int} {h:Bs} {args:List Bs} (hh:kwd i = h) (h0:i ≠ 0) (hl:isl i = false):resF (j + 1) i h args = Qc9 i args := by
 unfold resF
 rw [QgU,if_pos hh,if_neg h0,hl,if_neg (by simp)]
theorem Qoo {j:Nat} {i:Int} {h:Bs} {args:List Bs} (hh:kwd i = h) (hl:isl i = true):resF (j + 1) i h args = none := by
 unfold resF
 rw [QgU,if_pos hh,hl,if_pos rfl,ite_self]
theorem Qnp {j:Nat} {i:Int} {h:Bs} {args:List Bs} (hk:QgU h j i = 0):resF j i h args = none := by
 unfold resF
 rw [if_pos hk]
theorem beqS {a b:Bs} (h:a = b):(!(a == b)) = false := by simp [h]
theorem bneS {a b:Bs} (h:¬ a = b):(!(a == b)) = true := by simp [h]
theorem Qee {a b:Int} (h:a ≠ b):(!(a == b)) = true := by simp [h]
theorem Qji {a b:Int} (h:a = b):(!(a == b)) = false := by simp [h]
theorem QxN (h:Bs) (args:List Bs):(((scv (h :: args)).take (((scv (h :: args)).length:Int).toNat)).drop 1) = scv args := by
 simp only [scv,List.map_cons,List.length_cons,Int.toNat_natCast,List.take_succ_cons,List.drop_succ_cons,List.drop_zero]
 exact List.take_of_length_le (by simp)
theorem Qsz {k:Int} {args:List Bs} (h1:isc k = false) (h2:isp k = true):Qc9 k args = match args with
  | [x] => if (perT x).2 = 0 then some (mkL k 0 0 (perT x).1.1 (perT x).1.2.1 (perT x).1.2.2 true []) else none
  | _ => none := by unfold Qc9; rw [h1,h2,if_neg (by simp),if_pos rfl] <;> rfl
theorem Qov {k:Int} {args:List Bs} (h1:isc k = true):Qc9 k args = some (mkL k 0 0 0 0 0 false args) := by unfold Qc9; rw [h1,if_pos rfl]
theorem Qxe {args:List Bs} : Qc9 8 args = match args with
  | [x,y] => if (minF x).2 = 0 ∧ (minF y).2 = 0 then some (mkL 8 (minF x).1 (minF y).1 0 0 0 true []) else none
  | _ => none := by unfold Qc9; rw [if_neg (by decide),if_neg (by decide),if_pos rfl] <;> rfl
theorem QuK {args:List Bs} : Qc9 12 args = match args with
  | [x,y] => if (numB x).2 = 0 ∧ (numB y).2 = 0 then some (mkL 12 (numB x).1 (numB y).1 0 0 0 true []) else none
  | _ => none := by unfold Qc9; rw [if_neg (by decide),if_neg (by decide),if_neg (by decide),if_pos (by decide)] <;> rfl
theorem QoB {k:Int} {args:List Bs} (h1:isc k = false) (h2:isp k = false) (h3:k ≠ 8) (h4:nums k = 1):Qc9 k args = match args with
  | [x] => if (numB x).2 = 0 then some (mkL k (numB x).1 0 0 0 0 true []) else none
  | _ => none := by unfold Qc9; rw [h1,h2,if_neg (by simp),if_neg (by simp),if_neg h3,h4,if_neg (by decide),if_pos (by decide)] <;> rfl
theorem QBz {args:List Bs} : Qc9 1 args = some (mkL 1 0 0 0 0 0 true []) := by unfold Qc9; rw [if_neg (by decide),if_neg (by decide),if_neg (by decide),if_neg (by decide),if_neg (by decide)]
namespace K3
section
variable {lb n:Nat} {h:Bs} {args:List Bs} (H:LeafF lb n args)
include H
omit H in
theorem QCA (m:Nat):cond_leaf_L1 lb n (m + 1) false (scv (h :: args)) 15 = some (Qbd (resF 0 15 h args)) := by
 rw [QaQ]
 refine stF (decF (by decide)) ?_
 rw [QqV]
 rfl
theorem QCg (m:Nat):cond_leaf_L1 lb n (m + 2) false (scv (h :: args)) 14 = some (Qbd (resF 1 14 h args)) := by
 rw [QaQ]
 have nx:cond_leaf_L1 lb n (m + 1) false (scv (h :: args)) (IntKind.wrap .i64 (14 + 1)) = some (Qbd (resF 0 (14 + 1) h args)) := by
  rw [Qad (by decide) (by decide)]
  exact QCA m
 by_cases hh:kwd 14 = h
 ·refine stT (decT (by decide)) (stO _ H.f14 (stO _ rfl (stC rfl (stO _ rfl (stO _ rfl (stO _ rfl (stO _ rfl (stO _ rfl (stO _ rfl (stO _ rfl (stO _ rfl (stO _ rfl (stO _ rfl (stC rfl (stO _ rfl (stO _ rfl (stO _ rfl (stF (beqS hh) (stO _ rfl ?_)))))))))))))))))))
  rw [QdN hh (by decide) (by rfl),Qov (by rfl)]
  refine stF (decF (by decide)) (stO _ rfl (stT rfl (stC (Qeb _) (stC (decT (by rw [Qas]; simp; omega)) ?_))))
  rw [QxN]
  rfl
 ·rw [Qdh hh]
  exact stT (decT (by decide)) (stO _ H.f14 (stO _ rfl (stC rfl (stO _ rfl (stO _ rfl (stO _ rfl (stO _ rfl (stO _ rfl (stO _ rfl (stO _ rfl (stO _ rfl (stO _ rfl (stO _ rfl (stC rfl (stO _ rfl (stO _ rfl (stO _ rfl (stT (bneS hh) nx))))))))))))))))))
theorem QCl (m:Nat):cond_leaf_L1 lb n (m + 3) false (scv (h :: args)) 13 = some (Qbd (resF 2 13 h args)) := by
 rw [QaQ]
 have nx:cond_leaf_L1 lb n (m + 2) false (scv (h :: args)) (IntKind.wrap .i64 (13 + 1)) = some (Qbd (resF 1 (13 + 1) h args)) := by
  rw [Qad (by decide) (by decide)]
  exact QCg H m
 by_cases hh:kwd 13 = h
 ·refine stT (decT (by decide)) (stO _ H.f13 (stO _ rfl (stC rfl (stO _ rfl (stO _ rfl (stO _ rfl (stO _ rfl (stO _ rfl (stO _ rfl (stO _ rfl (stO _ rfl (stO _ rfl (stO _ rfl (stC rfl (stO _ rfl (stO _ rfl (stO _ rfl (stF (beqS hh) (stO _ rfl ?_)))))))))))))))))))
  rw [QdN hh (by decide) (by rfl),Qov (by rfl)]
  refine stF (decF (by decide)) (stO _ rfl (stT rfl (stC (Qeb _) (stC (decT (by rw [Qas]; simp; omega)) ?_))))
  rw [QxN]
  rfl
 ·rw [Qdh hh]
  exact stT (decT (by decide)) (stO _ H.f13 (stO _ rfl (stC rfl (stO _ rfl (stO _ rfl (stO _ rfl (stO _ rfl (stO _ rfl (stO _ rfl (stO _ rfl (stO _ rfl (stO _ rfl (stO _ rfl (stC rfl (stO _ rfl (stO _ rfl (stO _ rfl (stT (bneS hh) nx))))))))))))))))))
theorem QCz (m:Nat):cond_leaf_L1 lb n (m + 4) false (scv (h :: args)) 12 = some (Qbd (resF 3 12 h args)) := by
 rw [QaQ]
 have nx:cond_leaf_L1 lb n (m + 3) false (scv (h :: args)) (IntKind.wrap .i64 (12 + 1)) = some (Qbd (resF 2 (12 + 1) h args)) := by
  rw [Qad (by decide) (by decide)]
  exact QCl H m
 by_cases hh:kwd 12 = h
 ·refine stT (decT (by decide)) (stO _ H.f12 (stO _ rfl (stC rfl (stO _ rfl (stO _ rfl (stO _ rfl (stO _ rfl (stO _ rfl (stO _ rfl (stO _ rfl (stO _ rfl (stO _ rfl (stO _ rfl (stC rfl (stO _ rfl (stO _ rfl (stO _ rfl (stF (beqS hh) (stO _ rfl ?_)))))))))))))))))))
  rw [QdN hh (by decide) (by rfl),QuK]
  refine stF (decF (by decide)) (stO _ rfl (stF rfl (stO _ rfl (stF rfl (stF rfl (stO _ (Qai ..) (stT (decT (by decide)) ?_)))))))
  clear nx
  rcases args with _ | ⟨x,_ | ⟨y,_ | ⟨z,r⟩⟩⟩
  ·exact stT rfl rfl
  ·exact stT rfl rfl
  ·refine stF rfl (stO _ rfl (stC rfl (stO _ rfl (stO _ rfl (stC rfl (stO _ rfl (stO _ (H.num x (by simp)) (stO _ rfl (stO _ rfl (stO _ rfl (stO _ rfl (stO _ (Qai ..) ?_))))))))))))
   show _ = some (Qbd (if (numB x).2 = 0 ∧ (numB y).2 = 0 then _ else none))
   by_cases q:(numB x).2 = 0
   ·refine stF (Qji q) (stO _ rfl (stC rfl (stO _ rfl (stO _ (H.num y (by simp)) (stO _ rfl (stO _ rfl (stO _ rfl (stO _ rfl (stO _ (Qai ..) ?_)))))))))
    by_cases q2:(numB y).2 = 0
    ·rw [if_pos ⟨q,q2⟩]; exact stF (Qji q2) (stC rfl (stC rfl rfl))
    ·rw [if_neg (fun e => q2 e.2)]; exact stT (Qee q2) rfl
   ·rw [if_neg (fun e => q e.1)]; exact stT (Qee q) rfl
  ·exact stT (Qee (by rw [Qas]; simp; omega)) rfl
 ·rw [Qdh hh]
  exact stT (decT (by decide)) (stO _ H.f12 (stO _ rfl (stC rfl (stO _ rfl (stO _ rfl (stO _ rfl (stO _ rfl (stO _ rfl (stO _ rfl (stO _ rfl (stO _ rfl (stO _ rfl (stO _ rfl (stC rfl (stO _ rfl (stO _ rfl (stO _ rfl (stT (bneS hh) nx))))))))))))))))))
theorem QCf (m:Nat):cond_leaf_L1 lb n (m + 5) false (scv (h :: args)) 11 = some (Qbd (resF 4 11 h args)) := by
 rw [QaQ]
 have nx:cond_leaf_L1 lb n (m + 4) false (scv (h :: args)) (IntKind.wrap .i64 (11 + 1)) = some (Qbd (resF 3 (11 + 1) h args)) := by
  rw [Qad (by decide) (by decide)]
  exact QCz H m
 by_cases hh:kwd 11 = h
 ·refine stT (decT (by decide)) (stO _ H.f11 (stO _ rfl (stC rfl (stO _ rfl (stO _ rfl (stO _ rfl (stO _ rfl (stO _ rfl (stO _ rfl (stO _ rfl (stO _ rfl (stO _ rfl (stO _ rfl (stC rfl (stO _ rfl (stO _ rfl (stO _ rfl (stF (beqS hh) (stO _ rfl ?_)))))))))))))))))))
  rw [QdN hh (by decide) (by rfl),Qov (by rfl)]
  refine stF (decF (by decide)) (stO _ rfl (stT rfl (stC (Qeb _) (stC (decT (by rw [Qas]; simp; omega)) ?_))))
  rw [QxN]
  rfl
 ·rw [Qdh hh]
  exact stT (decT (by decide)) (stO _ H.f11 (stO _ rfl (stC rfl (stO _ rfl (stO _ rfl (stO _ rfl (stO _ rfl (stO _ rfl (stO _ rfl (stO _ rfl (stO _ rfl (stO _ rfl (stO _ rfl (stC rfl (stO _ rfl (stO _ rfl (stO _ rfl (stT (bneS hh) nx))))))))))))))))))
theorem QCm (m:Nat):cond_leaf_L1 lb n (m + 6) false (scv (h :: args)) 10 = some (Qbd (resF 5 10 h args)) := by
 rw [QaQ]
 have nx:cond_leaf_L1 lb n (m + 5) false (scv (h :: args)) (IntKind.wrap .i64 (10 + 1)) = some (Qbd (resF 4 (10 + 1) h args)) := by
  rw [Qad (by decide) (by decide)]
  exact QCf H m
 by_cases hh:kwd 10 = h
 ·refine stT (decT (by decide)) (stO _ H.f10 (stO _ rfl (stC rfl (stO _ rfl (stO _ rfl (stO _ rfl (stO _ rfl (stO _ rfl (stO _ rfl (stO _ rfl (stO _ rfl (stO _ rfl (stO _ rfl (stC rfl (stO _ rfl (stO _ rfl (stO _ rfl (stF (beqS hh) (stO _ rfl ?_)))))))))))))))))))
  rw [QdN hh (by decide) (by rfl),QoB (by rfl) (by rfl) (by decide) (by rfl)]
  refine stF (decF (by decide)) (stO _ rfl (stF rfl (stO _ rfl (stF rfl (stF rfl (stO _ (Qai ..) (stF (decF (by decide)) (stO _ (Qai ..) (stT (decT (by decide)) ?_)))))))))
  clear nx
  rcases args with _ | ⟨x,_ | ⟨y,r⟩⟩
  ·exact stT rfl rfl
  ·refine stF rfl (stO _ rfl (stC rfl (stO _ rfl (stO _ (H.num x (by simp)) (stO _ rfl (stO _ rfl (stO _ rfl (stO _ rfl (stO _ (Qai ..) ?_)))))))))
   show _ = some (Qbd (if (numB x).2 = 0 then _ else none))
   by_cases q:(numB x).2 = 0
   ·rw [if_pos q]; exact stF (Qji q) (stC rfl rfl)
   ·rw [if_neg q]; exact stT (Qee q) rfl
  ·exact stT (Qee (by rw [Qas]; simp; omega)) rfl
 ·rw [Qdh hh]
  exact stT (decT (by decide)) (stO _ H.f10 (stO _ rfl (stC rfl (stO _ rfl (stO _ rfl (stO _ rfl (stO _ rfl (stO _ rfl (stO _ rfl (stO _ rfl (stO _ rfl (stO _ rfl (stO _ rfl (stC rfl (stO _ rfl (stO _ rfl (stO _ rfl (stT (bneS hh) nx))))))))))))))))))
theorem QCQ (m:Nat):cond_leaf_L1 lb n (m + 7) false (scv (h :: args)) 9 = some (Qbd (resF 6 9 h args)) := by
 rw [QaQ]
 have nx:cond_leaf_L1 lb n (m + 6) false (scv (h :: args)) (IntKind.wrap .i64 (9 + 1)) = some (Qbd (resF 5 (9 + 1) h args)) := by
  rw [Qad (by decide) (by decide)]
  exact QCm H m
 by_cases hh:kwd 9 = h
 ·refine stT (decT (by decide)) (stO _ H.f9 (stO _ rfl (stC rfl (stO _ rfl (stO _ rfl (stO _ rfl (stO _ rfl (stO _ rfl (stO _ rfl (stO _ rfl (stO _ rfl (stO _ rfl (stO _ rfl (stC rfl (stO _ rfl (stO _ rfl (stO _ rfl (stF (beqS hh) (stO _ rfl ?_)))))))))))))))))))
  rw [QdN hh (by decide) (by rfl),QoB (by rfl) (by rfl) (by decide) (by rfl)]
  refine stF (decF (by decide)) (stO _ rfl (stF rfl (stO _ rfl (stF rfl (stF rfl (stO _ (Qai ..) (stF (decF (by decide)) (stO _ (Qai ..) (stT (decT (by decide)) ?_)))))))))
  clear nx
  rcases args with _ | ⟨x,_ | ⟨y,r⟩⟩
  ·exact stT rfl rfl
  ·refine stF rfl (stO _ rfl (stC rfl (stO _ rfl (stO _ (H.num x (by simp)) (stO _ rfl (stO _ rfl (stO _ rfl (stO _ rfl (stO _ (Qai ..) ?_)))))))))
   show _ = some (Qbd (if (numB x).2 = 0 then _ else none))
   by_cases q:(numB x).2 = 0
   ·rw [if_pos q]; exact stF (Qji q) (stC rfl rfl)
   ·rw [if_neg q]; exact stT (Qee q) rfl
  ·exact stT (Qee (by rw [Qas]; simp; omega)) rfl
 ·rw [Qdh hh]
  exact stT (decT (by decide)) (stO _ H.f9 (stO _ rfl (stC rfl (stO _ rfl (stO _ rfl (stO _ rfl (stO _ rfl (stO _ rfl (stO _ rfl (stO _ rfl (stO _ rfl (stO _ rfl (stO _ rfl (stC rfl (stO _ rfl (stO _ rfl (stO _ rfl (stT (bneS hh) nx))))))))))))))))))
theorem QCI (m:Nat):cond_leaf_L1 lb n (m + 8) false (scv (h :: args)) 8 = some (Qbd (resF 7 8 h args)) := by
 rw [QaQ]
 have nx:cond_leaf_L1 lb n (m + 7) false (scv (h :: args)) (IntKind.wrap .i64 (8 + 1)) = some (Qbd (resF 6 (8 + 1) h args)) := by
  rw [Qad (by decide) (by decide)]
  exact QCQ H m
 by_cases hh:kwd 8 = h
 ·refine stT (decT (by decide)) (stO _ H.f8 (stO _ rfl (stC rfl (stO _ rfl (stO _ rfl (stO _ rfl (stO _ rfl (stO _ rfl (stO _ rfl (stO _ rfl (stO _ rfl (stO _ rfl (stO _ rfl (stC rfl (stO _ rfl (stO _ rfl (stO _ rfl (stF (beqS hh) (stO _ rfl ?_)))))))))))))))))))
  rw [QdN hh (by decide) (by rfl),Qxe]
  refine stF (decF (by decide)) (stO _ rfl (stF rfl (stO _ rfl (stF rfl (stT rfl ?_)))))
  clear nx
  rcases args with _ | ⟨x,_ | ⟨y,_ | ⟨z,r⟩⟩⟩
  ·exact stT rfl rfl
  ·exact stT rfl rfl
  ·refine stF rfl (stO _ rfl (stC rfl (stO _ rfl (stO _ rfl (stC rfl (stO _ rfl (stO _ (H.min x (by simp)) (stO _ rfl (stO _ rfl (stO _ rfl (stO _ rfl (stO _ (Qai ..) ?_))))))))))))
   show _ = some (Qbd (if (minF x).2 = 0 ∧ (minF y).2 = 0 then _ else none))
   by_cases q:(minF x).2 = 0
   ·refine stF (Qji q) (stO _ rfl (stC rfl (stO _ rfl (stO _ (H.min y (by simp)) (stO _ rfl (stO _ rfl (stO _ rfl (stO _ rfl (stO _ (Qai ..) ?_)))))))))
    by_cases q2:(minF y).2 = 0
    ·rw [if_pos ⟨q,q2⟩]; exact stF (Qji q2) (stC rfl (stC rfl rfl))
    ·rw [if_neg (fun e => q2 e.2)]; exact stT (Qee q2) rfl
   ·rw [if_neg (fun e => q e.1)]; exact stT (Qee q) rfl
  ·exact stT (Qee (by rw [Qas]; simp; omega)) rfl
 ·rw [Qdh hh]
  exact stT (decT (by decide)) (stO _ H.f8 (stO _ rfl (stC rfl (stO _ rfl (stO _ rfl (stO _ rfl (stO _ rfl (stO _ rfl (stO _ rfl (stO _ rfl (stO _ rfl (stO _ rfl (stO _ rfl (stC rfl (stO _ rfl (stO _ rfl (stO _ rfl (stT (bneS hh) nx))))))))))))))))))
theorem QCN (m:Nat):cond_leaf_L1 lb n (m + 9) false (scv (h :: args)) 7 = some (Qbd (resF 8 7 h args)) := by
 rw [QaQ]
 have nx:cond_leaf_L1 lb n (m + 8) false (scv (h :: args)) (IntKind.wrap .i64 (7 + 1)) = some (Qbd (resF 7 (7 + 1) h args)) := by
  rw [Qad (by decide) (by decide)]
  exact QCI H m
 by_cases hh:kwd 7 = h
 ·refine stT (decT (by decide)) (stO _ H.f7 (stO _ rfl (stC rfl (stO _ rfl (stO _ rfl (stO _ rfl (stO _ rfl (stO _ rfl (stO _ rfl (stO _ rfl (stO _ rfl (stO _ rfl (stO _ rfl (stC rfl (stO _ rfl (stO _ rfl (stO _ rfl (stF (beqS hh) (stO _ rfl ?_)))))))))))))))))))
  rw [QdN hh (by decide) (by rfl),QoB (by rfl) (by rfl) (by decide) (by rfl)]
  refine stF (decF (by decide)) (stO _ rfl (stF rfl (stO _ rfl (stF rfl (stF rfl (stO _ (Qai ..) (stF (decF (by decide)) (stO _ (Qai ..) (stT (decT (by decide)) ?_)))))))))
  clear nx
  rcases args with _ | ⟨x,_ | ⟨y,r⟩⟩
  ·exact stT rfl rfl
  ·refine stF rfl (stO _ rfl (stC rfl (stO _ rfl (stO _ (H.num x (by simp)) (stO _ rfl (stO _ rfl (stO _ rfl (stO _ rfl (stO _ (Qai ..) ?_)))))))))
   show _ = some (Qbd (if (numB x).2 = 0 then _ else none))
   by_cases q:(numB x).2 = 0
   ·rw [if_pos q]; exact stF (Qji q) (stC rfl rfl)
   ·rw [if_neg q]; exact stT (Qee q) rfl
  ·exact stT (Qee (by rw [Qas]; simp; omega)) rfl
 ·rw [Qdh hh]
  exact stT (decT (by decide)) (stO _ H.f7 (stO _ rfl (stC rfl (stO _ rfl (stO _ rfl (stO _ rfl (stO _ rfl (stO _ rfl (stO _ rfl (stO _ rfl (stO _ rfl (stO _ rfl (stO _ rfl (stC rfl (stO _ rfl (stO _ rfl (stO _ rfl (stT (bneS hh) nx))))))))))))))))))
theorem QCD (m:Nat):cond_leaf_L1 lb n (m + 10) false (scv (h :: args)) 6 = some (Qbd (resF 9 6 h args)) := by
 rw [QaQ]
 have nx:cond_leaf_L1 lb n (m + 9) false (scv (h :: args)) (IntKind.wrap .i64 (6 + 1)) = some (Qbd (resF 8 (6 + 1) h args)) := by
  rw [Qad (by decide) (by decide)]
  exact QCN H m
 by_cases hh:kwd 6 = h
 ·refine stT (decT (by decide)) (stO _ H.f6 (stO _ rfl (stC rfl (stO _ rfl (stO _ rfl (stO _ rfl (stO _ rfl (stO _ rfl (stO _ rfl (stO _ rfl (stO _ rfl (stO _ rfl (stO _ rfl (stC rfl (stO _ rfl (stO _ rfl (stO _ rfl (stF (beqS hh) (stO _ rfl ?_)))))))))))))))))))
  rw [QdN hh (by decide) (by rfl),Qsz (by rfl) (by rfl)]
  refine stF (decF (by decide)) (stO _ rfl (stF rfl (stO _ rfl (stT rfl ?_))))
  clear nx
  rcases args with _ | ⟨x,_ | ⟨y,r⟩⟩
  ·exact stT rfl rfl
  ·refine stF rfl (stO _ rfl (stC rfl (stO _ rfl (stO _ ((H.per x (by simp)).trans (by rw [QnN])) (stO _ rfl (stO _ rfl (stO _ rfl (stO _ rfl (stO _ rfl (stC rfl (stO _ rfl (stO _ rfl (stO _ rfl (stO _ (Qai ..) ?_))))))))))))))
   show _ = some (Qbd (if (perT x).2 = 0 then _ else none))
   by_cases q:(perT x).2 = 0
   ·rw [if_pos q]; exact stF (Qji q) rfl
   ·rw [if_neg q]; exact stT (Qee q) rfl
  ·exact stT (Qee (by rw [Qas]; simp; omega)) rfl
 ·rw [Qdh hh]
  exact stT (decT (by decide)) (stO _ H.f6 (stO _ rfl (stC rfl (stO _ rfl (stO _ rfl (stO _ rfl (stO _ rfl (stO _ rfl (stO _ rfl (stO _ rfl (stO _ rfl (stO _ rfl (stO _ rfl (stC rfl (stO _ rfl (stO _ rfl (stO _ rfl (stT (bneS hh) nx))))))))))))))))))
theorem QCE (m:Nat):cond_leaf_L1 lb n (m + 11) false (scv (h :: args)) 5 = some (Qbd (resF 10 5 h args)) := by
 rw [QaQ]
 have nx:cond_leaf_L1 lb n (m + 10) false (scv (h :: args)) (IntKind.wrap .i64 (5 + 1)) = some (Qbd (resF 9 (5 + 1) h args)) := by
  rw [Qad (by decide) (by decide)]
  exact QCD H m
 by_cases hh:kwd 5 = h
 ·refine stT (decT (by decide)) (stO _ H.f5 (stO _ rfl (stC rfl (stO _ rfl (stO _ rfl (stO _ rfl (stO _ rfl (stO _ rfl (stO _ rfl (stO _ rfl (stO _ rfl (stO _ rfl (stO _ rfl (stC rfl (stO _ rfl (stO _ rfl (stO _ rfl (stF (beqS hh) (stO _ rfl ?_)))))))))))))))))))
  rw [QdN hh (by decide) (by rfl),Qsz (by rfl) (by rfl)]
  refine stF (decF (by decide)) (stO _ rfl (stF rfl (stO _ rfl (stT rfl ?_))))
  clear nx
  rcases args with _ | ⟨x,_ | ⟨y,r⟩⟩
  ·exact stT rfl rfl
  ·refine stF rfl (stO _ rfl (stC rfl (stO _ rfl (stO _ ((H.per x (by simp)).trans (by rw [QnN])) (stO _ rfl (stO _ rfl (stO _ rfl (stO _ rfl (stO _ rfl (stC rfl (stO _ rfl (stO _ rfl (stO _ rfl (stO _ (Qai ..) ?_))))))))))))))
   show _ = some (Qbd (if (perT x).2 = 0 then _ else none))
   by_cases q:(perT x).2 = 0
   ·rw [if_pos q]; exact stF (Qji q) rfl
   ·rw [if_neg q]; exact stT (Qee q) rfl
  ·exact stT (Qee (by rw [Qas]; simp; omega)) rfl
 ·rw [Qdh hh]
  exact stT (decT (by decide)) (stO _ H.f5 (stO _ rfl (stC rfl (stO _ rfl (stO _ rfl (stO _ rfl (stO _ rfl (stO _ rfl (stO _ rfl (stO _ rfl (stO _ rfl (stO _ rfl (stO _ rfl (stC rfl (stO _ rfl (stO _ rfl (stO _ rfl (stT (bneS hh) nx))))))))))))))))))
theorem QCG (m:Nat):cond_leaf_L1 lb n (m + 12) false (scv (h :: args)) 4 = some (Qbd (resF 11 4 h args)) := by
 rw [QaQ]
 have nx:cond_leaf_L1 lb n (m + 11) false (scv (h :: args)) (IntKind.wrap .i64 (4 + 1)) = some (Qbd (resF 10 (4 + 1) h args)) := by
  rw [Qad (by decide) (by decide)]
  exact QCE H m
 by_cases hh:kwd 4 = h
 ·refine stT (decT (by decide)) (stO _ H.f4 (stO _ rfl (stC rfl (stO _ rfl (stO _ rfl (stO _ rfl (stO _ rfl (stO _ rfl (stO _ rfl (stO _ rfl (stO _ rfl (stO _ rfl (stO _ rfl (stC rfl (stO _ rfl (stO _ rfl (stO _ rfl (stF (beqS hh) (stO _ rfl ?_)))))))))))))))))))
  rw [Qoo hh (by rfl)]
  refine stT (decT (by decide)) (nx.trans ?_)
  rw [Qnp (by rw [← hh]; decide)]
 ·rw [Qdh hh]
  exact stT (decT (by decide)) (stO _ H.f4 (stO _ rfl (stC rfl (stO _ rfl (stO _ rfl (stO _ rfl (stO _ rfl (stO _ rfl (stO _ rfl (stO _ rfl (stO _ rfl (stO _ rfl (stO _ rfl (stC rfl (stO _ rfl (stO _ rfl (stO _ rfl (stT (bneS hh) nx))))))))))))))))))
theorem QCT (m:Nat):cond_leaf_L1 lb n (m + 13) false (scv (h :: args)) 3 = some (Qbd (resF 12 3 h args)) := by
 rw [QaQ]
 have nx:cond_leaf_L1 lb n (m + 12) false (scv (h :: args)) (IntKind.wrap .i64 (3 + 1)) = some (Qbd (resF 11 (3 + 1) h args)) := by
  rw [Qad (by decide) (by decide)]
  exact QCG H m
 by_cases hh:kwd 3 = h
 ·refine stT (decT (by decide)) (stO _ H.f3 (stO _ rfl (stC rfl (stO _ rfl (stO _ rfl (stO _ rfl (stO _ rfl (stO _ rfl (stO _ rfl (stO _ rfl (stO _ rfl (stO _ rfl (stO _ rfl (stC rfl (stO _ rfl (stO _ rfl (stO _ rfl (stF (beqS hh) (stO _ rfl ?_)))))))))))))))))))
  rw [Qoo hh (by rfl)]
  refine stT (decT (by decide)) (nx.trans ?_)
  rw [Qnp (by rw [← hh]; decide)]
 ·rw [Qdh hh]
  exact stT (decT (by decide)) (stO _ H.f3 (stO _ rfl (stC rfl (stO _ rfl (stO _ rfl (stO _ rfl (stO _ rfl (stO _ rfl (stO _ rfl (stO _ rfl (stO _ rfl (stO _ rfl (stO _ rfl (stC rfl (stO _ rfl (stO _ rfl (stO _ rfl (stT (bneS hh) nx))))))))))))))))))
theorem QCR (m:Nat):cond_leaf_L1 lb n (m + 14) false (scv (h :: args)) 2 = some (Qbd (resF 13 2 h args)) := by
 rw [QaQ]
 have nx:cond_leaf_L1 lb n (m + 13) false (scv (h :: args)) (IntKind.wrap .i64 (2 + 1)) = some (Qbd (resF 12 (2 + 1) h args)) := by
  rw [Qad (by decide) (by decide)]
  exact QCT H m
 by_cases hh:kwd 2 = h
 ·refine stT (decT (by decide)) (stO _ H.f2 (stO _ rfl (stC rfl (stO _ rfl (stO _ rfl (stO _ rfl (stO _ rfl (stO _ rfl (stO _ rfl (stO _ rfl (stO _ rfl (stO _ rfl (stO _ rfl (stC rfl (stO _ rfl (stO _ rfl (stO _ rfl (stF (beqS hh) (stO _ rfl ?_)))))))))))))))))))
  rw [Qoo hh (by rfl)]
  refine stT (decT (by decide)) (nx.trans ?_)
  rw [Qnp (by rw [← hh]; decide)]
 ·rw [Qdh hh]
  exact stT (decT (by decide)) (stO _ H.f2 (stO _ rfl (stC rfl (stO _ rfl (stO _ rfl (stO _ rfl (stO _ rfl (stO _ rfl (stO _ rfl (stO _ rfl (stO _ rfl (stO _ rfl (stO _ rfl (stC rfl (stO _ rfl (stO _ rfl (stO _ rfl (stT (bneS hh) nx))))))))))))))))))
theorem leaf1 (m:Nat):cond_leaf_L1 lb n (m + 15) false (scv (h :: args)) 1 = some (Qbd (resF 14 1 h args)) := by
 rw [QaQ]
 have nx:cond_leaf_L1 lb n (m + 14) false (scv (h :: args)) (IntKind.wrap .i64 (1 + 1)) = some (Qbd (resF 13 (1 + 1) h args)) := by
  rw [Qad (by decide) (by decide)]
  exact QCR H m
 by_cases hh:kwd 1 = h
 ·refine stT (decT (by decide)) (stO _ H.f1 (stO _ rfl (stC rfl (stO _ rfl (stO _ rfl (stO _ rfl (stO _ rfl (stO _ rfl (stO _ rfl (stO _ rfl (stO _ rfl (stO _ rfl (stO _ rfl (stC rfl (stO _ rfl (stO _ rfl (stO _ rfl (stF (beqS hh) (stO _ rfl ?_)))))))))))))))))))
  rw [QdN hh (by decide) (by rfl),QBz]
  exact stF (decF (by decide)) (stO _ rfl (stF rfl (stO _ rfl (stF rfl (stF rfl (stO _ (Qai ..) (stF (decF (by decide)) (stO _ (Qai ..) (stF (decF (by decide)) rfl)))))))))
 ·rw [Qdh hh]
  exact stT (decT (by decide)) (stO _ H.f1 (stO _ rfl (stC rfl (stO _ rfl (stO _ rfl (stO _ rfl (stO _ rfl (stO _ rfl (stO _ rfl (stO _ rfl (stO _ rfl (stO _ rfl (stO _ rfl (stC rfl (stO _ rfl (stO _ rfl (stO _ rfl (stT (bneS hh) nx))))))))))))))))))
end
end K3
theorem QAh (ws:List Bs) (hw:ws ≠ []) (ha:∀ x ∈ ws,x.length ≤ 1000000000):Evt fun n => ∀ lb,K4.LE lb n (.list false (scv ws)) = some (Qbd (Qha ws)) := by
 cases ws with
 | nil => exact absurd rfl hw
 | cons h args =>
  refine ((Qzl args fun x hx => ha x (List.mem_cons_of_mem _ hx)).and (Evt.ge 16)).mono fun n ⟨H,hn⟩ lb => ?_
  obtain ⟨m,rfl⟩ : ∃ m,n = m + 15 := ⟨n - 15,by omega⟩
  show K3.top 1 (m + 15) QaW [.list false (scv (h :: args))] = _
  rw [K3.cond_leaf_eq]
  exact K3.leaf1 (H 1) m
end Go.Proofs
set_option linter.unusedVariables false
set_option linter.unusedSimpArgs false
set_option maxRecDepth 100000
namespace Go.Proofs
open Go.Am
namespace K5
def Ans (f:FuncId) (args:List CV) (r:CV):Prop := Evt fun n => ∀ lb,C lb n f args = some r
theorem QgD {f:FuncId} {args:List CV} {r:CV} (hL:L f = none) (h:Evt fun n => ∀ lb,top lb n f args = some r):Ans f args r := by
 obtain ⟨N,hN⟩ := h
 refine ⟨N + 1,fun n hn lb => ?_⟩
 obtain ⟨m,rfl⟩ : ∃ m,n = m + 1 := ⟨n - 1,by omega⟩
 rw [Qyl lb m f args hL]
 exact hN m (by omega) lb
theorem QBM {f:FuncId} {args:List CV} {r:CV} {s:List CV → Option CV} (hL:L f = some s) (h:s args = some r):Ans f args r :=
 Evt.from 1 fun n lb => by rw [Qux lb n f args hL,h]
theorem Qy4 (s:Bs) (c:Int):Ans QcS [.str s, .int .u8 c] (.int .i64 (Lib.indexByte s c.toNat.toUInt8)) := QBM rfl rfl
theorem QCy (r:Nat) (h:128 ≤ r):(∃ b0 b1,(Utf8.encode (r:Int)).data.toList = [b0,b1] ∧ 128 ≤ b1.toNat) ∨ 3 ≤ (Utf8.encode (r:Int)).data.toList.length ∧ (Utf8.encode (r:Int)).data.toList.length ≤ 4 := by
 unfold Utf8.encode
 generalize hc:(if Utf8.valid (r:Int) = true then (r:Int).toNat else Utf8.runeError) = c
 have hc2:128 ≤ c := by
  rw [← hc]
  split
  ·simpa using h
  ·decide
 simp only
 rw [if_neg (by omega)]
 split
 ·left
  refine ⟨_,_,rfl, ?_⟩
  rw [UInt8.toNat_ofNat']
  omega
 ·right
  split <;> simp
theorem QBO (r:Nat) (h:128 ≤ r) (hr:r ≤ 2147483647):Ans Qaa [.str [44,41], .int .i32 (r:Int)] (.int .i64 (-1)) := by
 refine QgD rfl ?_
 by_cases hE:(r:Int) = 65533
 ·rw [hE]
  refine Evt.from 3 fun n lb => ?_
  rw [Qdu]
  refine stT rfl (stF rfl (stT rfl ?_))
  rw [Qdt]
  refine stT rfl (stF rfl ?_)
  show Qct lb (n + 3) (n + 1 + 1) [44,41] 65533 1 = _
  rw [Qdt]
  refine stT rfl (stF rfl ?_)
  show Qct lb (n + 3) (n + 1) [44,41] 65533 2 = _
  rw [Qdt]
  refine stF rfl ?_
  rw [Qko]
 ·have ev:∃ b,Ans QcF [.int .i32 (r:Int)] (.bool b) := by
   by_cases q1:(r:Int) < 55296
   ·exact ⟨true,QgD rfl (.all fun n lb => (Qcq lb n _).trans (stT (decT (by omega)) (stT (decT q1) rfl)))⟩
   by_cases q2:(57343:Int) < r
   ·by_cases q3:(r:Int) ≤ 1114111
    ·exact ⟨true,QgD rfl (.all fun n lb => (Qcq lb n _).trans (stT (decT (by omega)) (stF (decF q1) (stT (decT q2) (stT (decT q3) rfl)))))⟩
    ·exact ⟨false,QgD rfl (.all fun n lb => (Qcq lb n _).trans (stT (decT (by omega)) (stF (decF q1) (stT (decT q2) (stF (decF q3) rfl)))))⟩
   ·exact ⟨false,QgD rfl (.all fun n lb => (Qcq lb n _).trans (stT (decT (by omega)) (stF (decF q1) (stF (decF q2) rfl))))⟩
  obtain ⟨b,ev⟩ := ev
  have ei := fun c => Qy4 [] c
  rcases QCy r h with ⟨b0,b1,e,hb⟩ | ⟨e1,e2⟩
  ·refine Evt.imp2 ev (Evt.and (ei (b1.toNat:Int)) (Evt.ge 1)) fun n x ⟨y,hn⟩ lb => ?_
   obtain ⟨n,rfl⟩ : ∃ m,n = m + 1 := ⟨n - 1,by omega⟩
   rw [Qdu]
   refine stT (decT (by omega)) (stF (decF (by omega)) (stF (beqF hE) (stO _ (x lb) (stO _ rfl ?_))))
   cases b with
   | false => exact stT rfl rfl
   | true =>
    refine stF rfl ?_
    rw [Qfa,e]
    refine stT rfl (stO 41 rfl (stO b1 rfl (stT (bneT (by show ((41:UInt8).toNat:Int) ≠ _; have:(41:UInt8).toNat = 41 := rfl; omega)) (stC rfl (stO b1 rfl (stO _ (y lb) (stO _ rfl (stT rfl rfl))))))))
  ·refine Evt.imp2 ev (Evt.ge 1) fun n x hn lb => ?_
   obtain ⟨n,rfl⟩ : ∃ m,n = m + 1 := ⟨n - 1,by omega⟩
   rw [Qdu]
   refine stT (decT (by omega)) (stF (decF (by omega)) (stF (beqF hE) (stO _ (x lb) (stO _ rfl ?_))))
   cases b with
   | false => exact stT rfl rfl
   | true =>
    refine stF rfl ?_
    rw [Qfa,Qad (by omega) (by omega)]
    refine stF (decF (by simp only [List.length_cons,List.length_nil]; omega)) ?_
    rw [QjZ]
theorem QAv:∀ k:Fin 128,(0 ≤ Lib.indexByte [44,41] k.val.toUInt8) ↔ (k.val = 44 ∨ k.val = 41) := by decide
theorem Qx8 (r:Nat) (h:r < 128):∃ z:Int,Ans Qaa [.str [44,41], .int .i32 (r:Int)] (.int .i64 z) ∧ (0 ≤ z ↔ r = 44 ∨ r = 41) := by
 have hw:IntKind.wrap .u8 (r:Int) = r := by
  unfold IntKind.wrap
  simp only [IntKind.bits,IntKind.signed]
  simp
  omega
 have e := Qy4 [44,41] (r:Int)
 refine ⟨_,QgD rfl (e.mono fun n x lb => ?_),by have := QAv ⟨r,h⟩; simpa using this⟩
 rw [Qdu]
 refine stT (decT (by omega)) (stT (decT (by omega)) ?_)
 rw [hw]
 exact stO _ (x lb) rfl
theorem QAk (s:ByteArray) (i j:Nat) (h1:1 ≤ j) (h2:j < (Utf8.decode s i).2):i + j < s.size ∧ 128 ≤ (s.get! (i + j)).toNat := by
 have key:∀ k,(decide (i + k < s.size) && (s.get! (i + k)).toNat / 64 == 2) = true → i + k < s.size ∧ 128 ≤ (s.get! (i + k)).toNat := fun k hk => by
  simp only [Bool.and_eq_true,decide_eq_true_eq,beq_iff_eq] at hk
  exact ⟨hk.1,by omega⟩
 unfold Utf8.decode at h2
 simp only at h2
 split at h2
 ·simp at h2; omega
 split at h2
 ·rename_i q
  rw [Bool.and_eq_true] at q
  split at h2
  ·simp at h2
   obtain rfl:j = 1 := by omega
   exact key 1 q.2
  ·simp at h2; omega
 split at h2
 ·rename_i q
  rw [Bool.and_eq_true,Bool.and_eq_true] at q
  split at h2
  ·simp at h2
   rcases (show j = 1 ∨ j = 2 by omega) with rfl | rfl
   ·exact key 1 q.1.2
   ·exact key 2 q.2
  ·simp at h2; omega
 split at h2
 ·rename_i q
  rw [Bool.and_eq_true,Bool.and_eq_true,Bool.and_eq_true] at q
  split at h2
  ·simp at h2
   rcases (show j = 1 ∨ j = 2 ∨ j = 3 by omega) with rfl | rfl | rfl
   ·exact key 1 q.1.1.2
   ·exact key 2 q.1.2
   ·exact key 3 q.2
  ·simp at h2; omega
 ·simp at h2; omega
theorem QAP (s:Bs) {i:Nat} {c:UInt8} (h:s[i]? = some c):(⟨s.toArray⟩ : ByteArray).get! i = c := by
 show s.toArray[i]! = c
 simp [h]
open Go.Lib in
theorem Qzf (s:Bs) (h8:s.length ≤ 8):Ans Qat [.str s, .str [44,41]] (.int .i64 (Lib.indexAny s [44,41])) := by
 refine QgD rfl ?_
 have e1:Ans Qdc [.int .i64 (s.length:Int)] (.bool false) := QgD rfl (.all fun n lb => by rw [QhN,decF (by omega)])
 have er:Evt fun n => ∀ i ∈ List.range 8, ∀ lb,i < s.length → ∃ z:Int,C lb n Qaa [.str [44,41], .int .i32 (((Utf8.decode ⟨s.toArray⟩ i).1:Nat):Int)] = some (.int .i64 z) ∧ (0 ≤ z ↔ (Utf8.decode ⟨s.toArray⟩ i).1 = 44 ∨ (Utf8.decode ⟨s.toArray⟩ i).1 = 41) := by
  refine Evt.fin _ fun i _ => ?_
  by_cases q:(Utf8.decode ⟨s.toArray⟩ i).1 < 128
  ·obtain ⟨z,h1,h2⟩ := Qx8 _ q
   exact h1.mono fun n hn lb _ => ⟨z,hn lb,h2⟩
  ·have := decode_le ⟨s.toArray⟩ i
   exact (QBO _ (by omega) this).mono fun n hn lb _ => ⟨-1,hn lb,by omega⟩
 refine Evt.imp2 e1 (Evt.and er (Evt.ge 10)) fun n x ⟨y,hn⟩ lb => ?_
 have loop:∀ (r p:Nat),s.length ≤ p + r → p ≤ s.length → NoAny s [44,41] p → ∀ k,r < k → QdQ lb n k s [44,41] p = some (.int .i64 (Lib.indexAny s [44,41])) := by
  intro r
  induction r with
  | zero =>
   intro p h1 h2 h3 k hk
   obtain ⟨k,rfl⟩ : ∃ j,k = j + 1 := ⟨k - 1,by omega⟩
   rw [Qfi]
   refine stF (decF (by omega)) ?_
   rw [Qf5,Lib.indexAny_none (by rw [show s.length = p by omega]; exact h3)]
  | succ r ih =>
   intro p h1 h2 h3 k hk
   obtain ⟨k,rfl⟩ : ∃ j,k = j + 1 := ⟨k - 1,by omega⟩
   rw [Qfi]
   by_cases hp:p < s.length
   ·obtain ⟨c,hc⟩ : ∃ c,s[p]? = some c := ⟨_,List.getElem?_eq_getElem hp⟩
    obtain ⟨z,hz,hz2⟩ := y p (by simp; omega) lb hp
    refine stT (decT hp) (stO _ hz (stO _ (Qai ..) ?_))
    have hsz:p < (⟨s.toArray⟩ : ByteArray).size := by simpa [ByteArray.size] using hp
    have hg:((⟨s.toArray⟩ : ByteArray)[p]'hsz) = c := (List.getElem?_eq_some_iff.1 hc).2
    by_cases ha:c.toNat < 128
    ·have hd := decode_ascii ⟨s.toArray⟩ p hsz (by rw [hg]; exact ha)
     rw [hg] at hd
     rw [hd] at hz2 ⊢
     by_cases hh:c.toNat = 44 ∨ c.toNat = 41
     ·refine stT (decT (hz2.2 hh)) ?_
      have hcon:([44,41]:Bs).contains c = true := by
       rcases hh with hh | hh
       ·rw [show c = 44 from Qds hh]; decide
       ·rw [show c = 41 from Qds hh]; decide
      rw [Lib.indexAny_hit h3 hc hcon]
     ·refine stF (decF (fun e => hh (hz2.1 e))) ?_
      have hcon:([44,41]:Bs).contains c = false := by
       simp only [List.contains_cons,List.contains_nil,Bool.or_false,Bool.or_eq_false_iff,beq_eq_false_iff_ne]
       exact ⟨fun e => hh (.inl (by rw [e]; rfl)),fun e => hh (.inr (by rw [e]; rfl))⟩
      exact ih (p + 1) (by omega) (by omega) (h3.succ hc hcon) k (by omega)
    ·have hd := decode_high ⟨s.toArray⟩ p hsz (by rw [hg]; omega)
     refine stF (decF (fun e => by have := hz2.1 e; omega)) ?_
     have hcont := QAk ⟨s.toArray⟩ p
     generalize hwd:(Utf8.decode ⟨s.toArray⟩ p).2 = wd at hd hcont ⊢
     have hle:p + wd ≤ s.length := by
      by_cases h1:wd = 1
      ·omega
      ·have := (hcont (wd - 1) (by omega) (by omega)).1
       have e:(⟨s.toArray⟩ : ByteArray).size = s.length := by simp [ByteArray.size]
       omega
     refine ih (p + wd) (by omega) hle ?_ k (by omega)
     intro j b hj hb
     by_cases hjp:j < p
     ·exact h3 j b hjp hb
     have hb128:128 ≤ b.toNat := by
      by_cases hjp2:j = p
      ·subst hjp2
       rw [hc] at hb
       obtain rfl := Option.some.inj hb
       omega
      ·have := (hcont (j - p) (by omega) (by omega)).2
       rw [show p + (j - p) = j by omega,QAP s hb] at this
       exact this
     simp only [List.contains_cons,List.contains_nil,Bool.or_false,Bool.or_eq_false_iff,beq_eq_false_iff_ne]
     exact ⟨fun e => by rw [e] at hb128; exact absurd hb128 (by decide),fun e => by rw [e] at hb128; exact absurd hb128 (by decide)⟩
   ·refine stF (decF hp) ?_
    rw [Qf5,Lib.indexAny_none (by rw [show s.length = p by omega]; exact h3)]
 rw [Qnk]
 refine stF rfl (stF rfl (stO _ (x lb) (stO _ rfl (stF rfl ?_))))
 rw [Qk8]
 exact loop s.length 0 (by omega) (by omega) (NoAny.zero _ _) n (by omega)
theorem any_all (s:Bs) (hs:s.length < 4294967281):K5.any [.str s, .str [44,41]] = some (.int .i64 (Lib.indexAny s [44,41])) := by
 unfold K5.any
 split
 ·rename_i r h
  simp only [QdC] at h
  split at h
  ·exact h.symm
  ·cases h
 ·rename_i h
  have h8:s.length ≤ 8 := by
   refine Decidable.byContradiction fun hn => ?_
   unfold QdC at h
   simp only at h
   rw [if_pos ⟨⟨hs,by decide⟩, .inr ⟨by omega,by decide⟩,by decide⟩] at h
   cases h
  obtain ⟨N,hN⟩ := Qzf s h8
  exact QCn ⟨N,fun n hn => hN n hn 1⟩
end K5
theorem QCw (s:Bs) (hs:s.length < 4294967281) (lb n:Nat):K3.C lb n Qat [.str s, .str [44,41]] = some (.int .i64 (Lib.indexAny s [44,41])) := K5.any_all s hs
end Go.Proofs
set_option linter.unusedVariables false
set_option linter.unusedSimpArgs false
set_option maxRecDepth 100000
namespace Go.Proofs
open Go.Am
variable (lb:Nat)
def Evt2 (P:Nat → Nat → Prop):Prop := ∃ M, ∀ N n,M ≤ N → M ≤ n → P N n
theorem Evt2.and {P Q:Nat → Nat → Prop} (h:Evt2 P) (g:Evt2 Q):Evt2 fun N n => P N n ∧ Q N n := by
 obtain ⟨a,ha⟩ := h
 obtain ⟨b,hb⟩ := g
 exact ⟨a + b,fun N n h1 h2 => ⟨ha N n (by omega) (by omega),hb N n (by omega) (by omega)⟩⟩
theorem Evt2.mono {P Q:Nat → Nat → Prop} (h:Evt2 P) (k:∀ N n,P N n → Q N n):Evt2 Q := h.elim fun M hM => ⟨M,fun N n a b => k N n (hM N n a b)⟩
theorem Evt2.evt {P:Nat → Prop} (h:Evt P):Evt2 fun _ n => P n := h.elim fun M hM => ⟨M,fun N n _ b => hM n b⟩
theorem Evt2.ge (m:Nat):Evt2 fun _ n => m ≤ n := ⟨m,fun _ _ _ h => h⟩
def cutP (p s:Bs):Option Bs := if p.length ≤ s.length ∧ s.take p.length = p then some (s.drop p.length) else none
def cutV (p s:Bs):CV := match cutP p s with
 | some r => .tup [.str r, .bool true]
 | none => .tup [.str s, .bool false]
theorem QB0 (s p:Bs):Ret lb QdD [.str s, .str p] (.bool (decide (p.length ≤ s.length ∧ s.take p.length = p))) := by
 refine .top rfl (.all fun n => ?_)
 rw [Qjg]
 by_cases h:p.length ≤ s.length
 ·refine stT (decT (by omega)) (stC (decT (by omega)) ?_)
  rw [Int.toNat_natCast,List.drop_zero]
  by_cases q:s.take p.length = p
  ·rw [q,decT ⟨h,rfl⟩]; simp
  ·rw [decF (fun e => q e.2)]; simp [q]
 ·rw [decF (p := p.length ≤ s.length ∧ _) (fun e => h e.1)]
  exact stF (decF (by omega)) rfl
theorem QBN (s p:Bs):Ret lb Qbv [.str s, .str p] (cutV p s) := by
 have e1:Ret lb QdI [.str s, .str p] (cutV p s) := by
  have e0 := QB0 lb s p
  unfold cutV cutP
  by_cases h:p.length ≤ s.length ∧ s.take p.length = p
  ·rw [decT h] at e0
   rw [if_pos h]
   refine .top rfl (.eq (fun n => by rw [Qfc]) (e0.mono fun n a => ?_))
   refine stO _ a (stO _ rfl (stF rfl (stC (decT (by omega)) ?_)))
   rw [Int.toNat_natCast,Int.toNat_natCast,List.take_length]
  ·rw [decF h] at e0
   rw [if_neg h]
   refine .top rfl (.eq (fun n => by rw [Qfc]) (e0.mono fun n a => ?_))
   exact stO _ a (stO _ rfl (stT rfl rfl))
 refine .top rfl (.eq (fun n => by rw [Qmi]) (e1.mono fun n a => stO _ a ?_))
 unfold cutV
 cases cutP p s <;> exact stO _ rfl (stO _ rfl (stO _ rfl (stO _ rfl rfl)))
theorem QdL {p s r:Bs} (h:cutP p s = some r):s = p ++ r ∧ r.length + p.length = s.length := by
 unfold cutP at h
 split at h
 ·rename_i q
  obtain rfl := Option.some.inj h
  have e:s = p ++ s.drop p.length := by
   have := List.take_append_drop p.length s
   rw [q.2] at this
   exact this.symm
  exact ⟨e,by rw [List.length_drop]; omega⟩
 ·cases h
theorem QpI (p r:Bs):cutP p (p ++ r) = some r := by
 unfold cutP
 rw [if_pos ⟨by simp,by simp⟩]
 simp
def Qf2 (c:UInt8):Bool := !(c == 44 || c == 41)
def Qbh (s:Bs):Bs := s.takeWhile Qf2
def Qgn (s:Bs):Bs := s.dropWhile Qf2
theorem Qit (s:Bs):Qbh s ++ Qgn s = s := List.takeWhile_append_dropWhile
theorem QtQ (c:UInt8) (r:Bs):Lib.indexAny (c :: r) [44,41] = if Qf2 c = true then (if Lib.indexAny r [44,41] = -1 then -1 else Lib.indexAny r [44,41] + 1) else 0 := by
 cases hn:Qf2 c with
 | false =>
  rw [if_neg (by simp)]
  refine Lib.indexAny_hit (i := 0) (Lib.NoAny.zero _ _) rfl ?_
  simp only [Qf2,Bool.not_eq_false',Bool.or_eq_true,beq_iff_eq] at hn
  rcases hn with rfl | rfl <;> decide
 | true =>
  rw [if_pos rfl]
  have hc:([44,41]:Bs).contains c = false := by
   simp only [Qf2,Bool.not_eq_true',Bool.or_eq_false_iff,beq_eq_false_iff_ne] at hn
   simp only [List.contains_cons,List.contains_nil,Bool.or_false,Bool.or_eq_false_iff,beq_eq_false_iff_ne]
   exact hn
  by_cases hx:∃ i x,Lib.NoAny r [44,41] i ∧ r[i]? = some x ∧ ([44,41]:Bs).contains x = true
  ·obtain ⟨i,x,h1,h2,h3⟩ := hx
   rw [Lib.indexAny_hit h1 h2 h3,if_neg (by omega)]
   refine (Lib.indexAny_hit (i := i + 1) (fun j b hj hb => ?_) (by simpa using h2) h3).trans (by omega)
   cases j with
   | zero => simp at hb; subst hb; exact hc
   | succ j => exact h1 j b (by omega) (by simpa using hb)
  ·have hno:Lib.NoAny r [44,41] r.length := by
    have:∀ i,i ≤ r.length → Lib.NoAny r [44,41] i := by
     intro i
     induction i with
     | zero => exact fun _ => Lib.NoAny.zero _ _
     | succ i ih =>
      intro hi
      obtain ⟨x,hx2⟩ : ∃ x,r[i]? = some x := ⟨_,List.getElem?_eq_getElem (by omega)⟩
      refine (ih (by omega)).succ hx2 (Bool.eq_false_iff.2 fun e => hx ⟨i,x,ih (by omega),hx2,e⟩)
    exact this _ (Nat.le_refl _)
   rw [Lib.indexAny_none hno,if_pos rfl]
   refine Lib.indexAny_none fun j b hj hb => ?_
   cases j with
   | zero => simp at hb; subst hb; exact hc
   | succ j => exact hno j b (by simp at hj; omega) (by simpa using hb)
theorem QmN:∀ s:Bs,Lib.indexAny s [44,41] = if (Qbh s).length < s.length then ((Qbh s).length:Int) else -1
 | [] => by rfl
 | c :: r => by
  rw [QtQ]
  have ih := QmN r
  cases hn:Qf2 c with
  | false => simp [Qbh,hn]
  | true =>
   have e:Qbh (c :: r) = c :: Qbh r := by simp [Qbh,hn]
   rw [if_pos rfl,ih,e]
   simp only [List.length_cons]
   by_cases q:(Qbh r).length < r.length
   ·rw [if_pos q,if_neg (by omega),if_pos (by omega)]; omega
   ·rw [if_neg q,if_pos rfl,if_neg (by omega)]
theorem Qtb (s:Bs):s.take (Qbh s).length = Qbh s :=
 (congrArg (List.take (Qbh s).length) (Qit s).symm).trans (by simp)
theorem Qs9 (s:Bs):s.drop (Qbh s).length = Qgn s :=
 (congrArg (List.drop (Qbh s).length) (Qit s).symm).trans (by simp)
def Qh7 (s:Bs):Option (Int × Bs) := match cutP (kwd 2 ++ [40]) s with
 | some r => some (2,r)
 | none => match cutP (kwd 3 ++ [40]) s with
  | some r => some (3,r)
  | none => match cutP (kwd 4 ++ [40]) s with
   | some r => some (4,r)
   | none => none
def mkLi (i:Int) (l:List Cd):Cd := .mk i false l 0 0 0 0 0 true []
def Qex (p:Bs → Option (Cd × Bs)) (i:Int):Nat → List Cd → Bs → Option (Cd × Bs)
 | 0,_,_ => none
 | j + 1,l,s => match cutP [44,32] s with
  | some s1 => match p s1 with
   | some x => Qex p i j (l ++ [x.1]) x.2
   | none => none
  | none => match cutP [41] s with
   | some s1 => some (mkLi i l,s1)
   | none => none
def Qca:Nat → Bs → Option (Cd × Bs)
 | 0,_ => none
 | k + 1,s => match Qh7 s with
  | some q => match Qca k q.2 with
   | some x => Qex (Qca k) q.1 (x.2.length + 1) [x.1] x.2
   | none => none
  | none => match Qha (QaJ 32 (Qbh s)) with
   | some c => some (c,Qgn s)
   | none => none
def Qgf (o:Option (Cd × Bs)):CV := match o with
 | some x => .tup [cdv x.1, .str x.2]
 | none => .err
theorem QuP {p:Bs → Option (Cd × Bs)} (hp:∀ s x,p s = some x → x.2.length ≤ s.length) {i:Int} : ∀ (j:Nat) (l:List Cd) (s:Bs) (x:Cd × Bs),Qex p i j l s = some x → x.2.length ≤ s.length
 | 0,_,_,_,h => by cases h
 | j + 1,l,s,x,h => by
  rw [Qex] at h
  split at h
  ·rename_i s1 h1
   have := (QdL h1).2
   split at h
   ·rename_i y hy
    have h2 := hp _ _ hy
    have h3 := QuP hp j _ _ x h
    omega
   ·cases h
  ·split at h
   ·rename_i s1 h1
    have := (QdL h1).2
    obtain rfl := Option.some.inj h
    show s1.length ≤ _
    omega
   ·cases h
theorem QsQ {s:Bs} {q:Int × Bs} (h:Qh7 s = some q):q.2.length < s.length ∧ (q.1 = 2 ∨ q.1 = 3 ∨ q.1 = 4) ∧ s = kwd q.1 ++ [40] ++ q.2 := by
 unfold Qh7 at h
 split at h
 ·rename_i r e
  obtain ⟨h1,h2⟩ := QdL e
  obtain rfl := Option.some.inj h
  exact ⟨by simp [kwd,kws] at h2; show r.length < _; omega, .inl rfl,h1⟩
 split at h
 ·rename_i r e
  obtain ⟨h1,h2⟩ := QdL e
  obtain rfl := Option.some.inj h
  exact ⟨by simp [kwd,kws] at h2; show r.length < _; omega, .inr (.inl rfl),h1⟩
 split at h
 ·rename_i r e
  obtain ⟨h1,h2⟩ := QdL e
  obtain rfl := Option.some.inj h
  exact ⟨by simp [kwd,kws] at h2; show r.length < _; omega, .inr (.inr rfl),h1⟩
 ·cases h
theorem Qqf:∀ (k:Nat) (s:Bs) (x:Cd × Bs),Qca k s = some x → x.2.length ≤ s.length
 | 0,_,_,h => by cases h
 | k + 1,s,x,h => by
  rw [Qca] at h
  split at h
  ·rename_i q hq
   have h1 := (QsQ hq).1
   split at h
   ·rename_i y hy
    have h2 := Qqf k _ _ hy
    have h3 := QuP (Qqf k) _ _ _ _ h
    omega
   ·cases h
  ·split at h
   ·obtain rfl := Option.some.inj h
    have := congrArg List.length (Qit s)
    rw [List.length_append] at this
    show (Qgn s).length ≤ _
    omega
   ·cases h
end Go.Proofs
set_option linter.unusedVariables false
set_option linter.unusedSimpArgs false
set_option maxRecDepth 100000
namespace Go.Proofs
open Go.Am
theorem QlH (s p:Bs):Evt2 fun _ n => ∀ lb,K3.C lb n Qbv [.str s, .str p] = some (cutV p s) := Evt2.evt (QcQ rfl (QBN 1 s p))
theorem Qiu {p s r:Bs} (h:cutP p s = some r):cutV p s = .tup [.str r, .bool true] := by unfold cutV; rw [h]
theorem Qik {p s:Bs} (h:cutP p s = none):cutV p s = .tup [.str s, .bool false] := by unfold cutV; rw [h]
def Qqi (s:Bs) (o:Option (Cd × Bs)):Prop := Evt2 fun N n => K4.PE N n s = some (Qgf o)
namespace K4
def endV (i:Int) (l:List Cd) (s:Bs):Option (Cd × Bs) := match cutP [41] s with
 | some s1 => some (mkLi i l,s1)
 | none => none
theorem j5 (i:Int) (c x1 x2 x3 x4 x5 x6 x7 x8:CV) (l:List Cd) (s:Bs):Evt2 fun N n => ∀ ju,Qe7 N n ju i c x1 x2 x3 x4 x5 x6 x7 x8 (.str s) false (l.map ccv) = some (Qgf (endV i l s)) := by
 refine (QlH s [41]).mono fun N n e ju => ?_
 rw [Qlb]
 refine stO _ (e N) ?_
 unfold endV
 cases h:cutP [41] s with
 | some r =>
  rw [Qiu h]
  exact stO _ rfl (stO _ rfl (stO _ rfl (stO _ rfl (stC rfl (stO _ rfl (stF rfl rfl))))))
 | none =>
  rw [Qik h]
  exact stO _ rfl (stO _ rfl (stO _ rfl (stO _ rfl (stC rfl (stO _ rfl (stT rfl rfl))))))
theorem j6 (i:Int) (c:CV) (x:Cd) (s:Bs):Evt2 fun N n => ∀ ju,Qe6 N n ju i c (.int .i64 x.k) (.list x.ln (x.l.map ccv)) (.int .i64 x.a) (.int .i64 x.b) (.int .i64 x.fr) (.int .i64 x.to) (.int .i64 x.days) (.list x.tn (scv x.t)) (.str s) = some (Qgf (endV i [x] s)) := by
 refine (QlH s [41]).mono fun N n e ju => ?_
 rw [Qld]
 refine stO _ (e N) ?_
 unfold endV
 cases h:cutP [41] s with
 | some r =>
  rw [Qiu h]
  refine stO _ rfl (stO _ rfl (stO _ rfl (stO _ rfl (stC rfl (stO _ rfl (stF rfl ?_))))))
  show _ = some (CV.tup [cdv (mkLi i [x]), .str r])
  have e2:((mkLi i [x]).l.map ccv) = [[.int .i64 x.k, .list x.ln (x.l.map ccv), .int .i64 x.a, .int .i64 x.b, .int .i64 x.fr, .int .i64 x.to, .int .i64 x.days, .list x.tn (scv x.t)]] := by
   show [ccv x] = _
   rw [Qhe]
  show _ = some (CV.tup [.agg [_, .list _ ((mkLi i [x]).l.map ccv),_,_,_,_,_,_],_])
  rw [e2]
  rfl
 | none =>
  rw [Qik h]
  exact stO _ rfl (stO _ rfl (stO _ rfl (stO _ rfl (stC rfl (stO _ rfl (stT rfl rfl))))))
variable {p:Bs → Option (Cd × Bs)} {B:Nat} (hp:∀ s,s.length < B → Qqi s (p s)) (hl:∀ s x,p s = some x → x.2.length ≤ s.length)
include hp hl
theorem l4 (i:Int) (c x1 x2 x3 x4 x5 x6 x7 x8:CV):∀ (j:Nat) (l:List Cd) (s:Bs),s.length < j → s.length ≤ B → l.length + j ≤ 1000000 → Evt2 fun N n => ∀ ju k,j < k → QdR N n k ju i c x1 x2 x3 x4 x5 x6 x7 x8 s (l.map ccv) = some (Qgf (Qex p i j l s)) := by
 intro j
 induction j with
 | zero => intro l s h; omega
 | succ j ih =>
  intro l s hs hB hj
  rw [Qex]
  have ec := QlH s [44,32]
  cases h:cutP [44,32] s with
  | none =>
   rw [Qik h] at ec
   refine (ec.and (j5 i c x1 x2 x3 x4 x5 x6 x7 x8 l s)).mono fun N n ⟨e,f⟩ ju k hk => ?_
   obtain ⟨k,rfl⟩ : ∃ m,k = m + 1 := ⟨k - 1,by omega⟩
   rw [QdG]
   exact stO _ (e N) (stO _ rfl (stO _ rfl (stO _ rfl (stO _ rfl (stC rfl (stO _ rfl (stF rfl (f ju))))))))
  | some s1 =>
   rw [Qiu h] at ec
   have hlen := (QdL h).2
   simp only [List.length_cons,List.length_nil] at hlen
   have e1 := hp s1 (by omega)
   dsimp only
   cases hq:p s1 with
   | none =>
    rw [hq] at e1
    refine (ec.and e1).mono fun N n ⟨e,f⟩ ju k hk => ?_
    obtain ⟨k,rfl⟩ : ∃ m,k = m + 1 := ⟨k - 1,by omega⟩
    rw [QdG]
    refine stO _ (e N) (stO _ rfl (stO _ rfl (stO _ rfl (stO _ rfl (stC rfl (stO _ rfl (stT rfl (stO _ rfl ?_))))))))
    rw [f]
    rfl
   | some y =>
    rw [hq] at e1
    have hy := hl _ _ hq
    have e2 := ih (l ++ [y.1]) y.2 (by omega) (by omega) (by simp; omega)
    refine (ec.and (e1.and e2)).mono fun N n ⟨e,f,g⟩ ju k hk => ?_
    obtain ⟨k,rfl⟩ : ∃ m,k = m + 1 := ⟨k - 1,by omega⟩
    rw [QdG]
    refine stO _ (e N) (stO _ rfl (stO _ rfl (stO _ rfl (stO _ rfl (stC rfl (stO _ rfl (stT rfl (stO _ rfl ?_))))))))
    rw [f]
    refine stO _ rfl (stC rfl (stO _ rfl (stO _ rfl (stO _ rfl (stO _ rfl (stO _ rfl (stO _ rfl (stO _ rfl (stO _ rfl (stC (QdW (by rw [List.length_map]; omega)) ?_))))))))))
    have ee:l.map ccv ++ [[.int .i64 y.1.k, .list y.1.ln (y.1.l.map ccv), .int .i64 y.1.a, .int .i64 y.1.b, .int .i64 y.1.fr, .int .i64 y.1.to, .int .i64 y.1.days, .list y.1.tn (scv y.1.t)]] = (l ++ [y.1]).map ccv := by rw [← Qhe]; simp
    rw [ee]
    exact g ju k (by omega)
theorem l3 (i:Int) (c:CV) (x:Cd) (j:Nat) (s:Bs) (hs:s.length < j + 1) (hB:s.length ≤ B) (hj:j ≤ 900000):Evt2 fun N n => ∀ ju k,j + 1 < k → Qe8 N n k ju i c (.int .i64 x.k) (.list x.ln (x.l.map ccv)) (.int .i64 x.a) (.int .i64 x.b) (.int .i64 x.fr) (.int .i64 x.to) (.int .i64 x.days) (.list x.tn (scv x.t)) s = some (Qgf (Qex p i (j + 1) [x] s)) := by
 rw [Qex]
 have ec := QlH s [44,32]
 cases h:cutP [44,32] s with
 | none =>
  rw [Qik h] at ec
  refine (ec.and (j6 i c x s)).mono fun N n ⟨e,f⟩ ju k hk => ?_
  obtain ⟨k,rfl⟩ : ∃ m,k = m + 1 := ⟨k - 1,by omega⟩
  rw [QdJ]
  exact stO _ (e N) (stO _ rfl (stO _ rfl (stO _ rfl (stO _ rfl (stC rfl (stO _ rfl (stF rfl (f ju))))))))
 | some s1 =>
  rw [Qiu h] at ec
  have hlen := (QdL h).2
  simp only [List.length_cons,List.length_nil] at hlen
  have e1 := hp s1 (by omega)
  dsimp only
  cases hq:p s1 with
  | none =>
   rw [hq] at e1
   refine (ec.and e1).mono fun N n ⟨e,f⟩ ju k hk => ?_
   obtain ⟨k,rfl⟩ : ∃ m,k = m + 1 := ⟨k - 1,by omega⟩
   rw [QdJ]
   refine stO _ (e N) (stO _ rfl (stO _ rfl (stO _ rfl (stO _ rfl (stC rfl (stO _ rfl (stT rfl (stO _ rfl ?_))))))))
   rw [f]
   rfl
  | some y =>
   rw [hq] at e1
   have hy := hl _ _ hq
   have e2 := l4 hp hl i c (.int .i64 x.k) (.list x.ln (x.l.map ccv)) (.int .i64 x.a) (.int .i64 x.b) (.int .i64 x.fr) (.int .i64 x.to) (.int .i64 x.days) (.list x.tn (scv x.t)) j [x,y.1] y.2 (by omega) (by omega) (by simp; omega)
   refine (ec.and (e1.and e2)).mono fun N n ⟨e,f,g⟩ ju k hk => ?_
   obtain ⟨k,rfl⟩ : ∃ m,k = m + 1 := ⟨k - 1,by omega⟩
   rw [QdJ]
   refine stO _ (e N) (stO _ rfl (stO _ rfl (stO _ rfl (stO _ rfl (stC rfl (stO _ rfl (stT rfl (stO _ rfl ?_))))))))
   rw [f]
   refine stO _ rfl (stC rfl (stO _ rfl (stO _ rfl (stO _ rfl (stO _ rfl (stO _ rfl (stO _ rfl (stO _ rfl (stO _ rfl ?_)))))))))
   have g := g ju k (by omega)
   rw [List.map_cons,List.map_cons,List.map_nil,Qhe x,Qhe y.1] at g
   exact g
end K4
theorem Qxw (i:Int) (hi:i = 2 ∨ i = 3 ∨ i = 4):∃ x3 x4 x5 x6 x7 x8 x9 jt,Evt2 fun _ n => ∀ lb,K3.C lb n Qax [.int .i64 i] = some (.agg [.str (kwd i),x3,x4,x5,x6,x7,x8,x9,jt]) := by
 rcases hi with rfl | rfl | rfl
 ·exact ⟨_,_,_,_,_,_,_,_,Evt2.evt (QcQ rfl (Qs3 1))⟩
 ·exact ⟨_,_,_,_,_,_,_,_,Evt2.evt (QcQ rfl (QsN 1))⟩
 ·exact ⟨_,_,_,_,_,_,_,_,Evt2.evt (QcQ rfl (QsY 1))⟩
namespace K4
theorem j7 (i:Int) (s:Bs) (hs:s.length ≤ 1000000000):Evt2 fun N n => Qe4 N n i (.str s) = some (Qgf (match Qha (QaJ 32 (Qbh s)) with
  | some c => some (c,Qgn s)
  | none => none)) := by
 have hh:(Qbh s).length ≤ s.length := by
  have := congrArg List.length (Qit s)
  rw [List.length_append] at this
  omega
 have e1:Evt2 fun _ n => ∀ lb,K3.C lb n QcE [.str (Qbh s), .str [32]] = some (.list false (scv (QaJ 32 (Qbh s)))) := Evt2.evt (QcQ rfl (QsZ 1 (Qbh s) 32 (by omega)))
 have e2:Evt2 fun _ n => ∀ lb,K4.LE lb n (.list false (scv (QaJ 32 (Qbh s)))) = some (Qbd (Qha (QaJ 32 (Qbh s)))) :=
  Evt2.evt (QAh _ (QkM 32 _) fun x hx => by have := (Qhc 32 (Qbh s)).2 x hx; omega)
 have e3 := QmN s
 have fin:∀ (N n:Nat) (k:CV → Option CV),K4.LE N n (.list false (scv (QaJ 32 (Qbh s)))) = some (Qbd (Qha (QaJ 32 (Qbh s)))) →
   (∀ c:Cd,k (cdv c) = some (.tup [cdv c, .str (Qgn s)])) → panO (K4.LE N n (.list false (scv (QaJ 32 (Qbh s))))) k = some (Qgf (match Qha (QaJ 32 (Qbh s)) with
    | some c => some (c,Qgn s)
    | none => none)) := by
  intro N n k h hk
  rw [h]
  cases Qha (QaJ 32 (Qbh s)) with
  | none => rfl
  | some c => exact hk c
 refine (e1.and e2).mono fun N n ⟨a,b⟩ => ?_
 rw [Qlj]
 refine stO _ (QCw s (by omega) N n) (stO _ (Qai ..) ?_)
 by_cases q:(Qbh s).length < s.length
 ·rw [e3,if_pos q]
  refine stF (decF (by omega)) ?_
  rw [Qln]
  have ht:(s.take ((Qbh s).length:Int).toNat).drop 0 = Qbh s := by rw [Int.toNat_natCast,Qtb]; rfl
  have hd:(s.take ((s.length:Int).toNat)).drop ((Qbh s).length:Int).toNat = Qgn s := by rw [Int.toNat_natCast,Int.toNat_natCast,List.take_length,Qs9]
  refine stO _ rfl (stO _ rfl (stC (decT (by omega)) ?_))
  rw [ht]
  refine stO _ (a N) (stO _ rfl (stO _ rfl (stC (decT (by omega)) (fin N n _ (b N) fun c => ?_))))
  refine stO _ rfl (stC rfl (stO _ rfl (stO _ rfl (stO _ rfl (stO _ rfl (stO _ rfl (stO _ rfl (stO _ rfl (stO _ rfl ?_)))))))))
  rw [hd]
 ·rw [e3,if_neg q]
  refine stT (decT (by omega)) (stO _ rfl ?_)
  rw [Qls]
  have hl:(Qbh s).length = s.length := by omega
  have ht:(s.take ((s.length:Int).toNat)).drop 0 = Qbh s := by
   have := Qtb s
   rw [hl] at this
   rw [Int.toNat_natCast,this]; rfl
  have hd:(s.take ((s.length:Int).toNat)).drop ((s.length:Int).toNat) = Qgn s := by
   have := Qs9 s
   rw [hl] at this
   rw [Int.toNat_natCast,List.take_length,this]
  refine stO _ rfl (stC (decT (by omega)) ?_)
  rw [ht]
  refine stO _ (a N) (stO _ rfl (stC (decT (by omega)) (fin N n _ (b N) fun c => ?_)))
  refine stO _ rfl (stC rfl (stO _ rfl (stO _ rfl (stO _ rfl (stO _ rfl (stO _ rfl (stO _ rfl (stO _ rfl (stO _ rfl ?_)))))))))
  rw [hd]
variable {p:Bs → Option (Cd × Bs)} {B:Nat} (hp:∀ s,s.length < B → Qqi s (p s)) (hl:∀ s x,p s = some x → x.2.length ≤ s.length)
include hp hl
theorem hit (i:Int) (hi:i = 2 ∨ i = 3 ∨ i = 4) (s s1:Bs) (hs:s.length ≤ B) (hB:B ≤ 800000) (h:cutP (kwd i ++ [40]) s = some s1):Evt2 fun N n => ∀ k,cond_reader_part_L1 N n (k + 1) i (.str s) = some (Qgf (match p s1 with
  | some x => Qex p i (x.2.length + 1) [x.1] x.2
  | none => none)) := by
 obtain ⟨x3,x4,x5,x6,x7,x8,x9,jt,ef⟩ := Qxw i hi
 have hlen := (QdL h).2
 have hk := QoI i
 simp only [List.length_append,List.length_cons,List.length_nil] at hlen
 have ec := QlH s (kwd i ++ [40])
 rw [Qiu h] at ec
 have e1 := hp s1 (by omega)
 cases hq:p s1 with
 | none =>
  rw [hq] at e1
  refine (ef.and (ec.and e1)).mono fun N n ⟨a,e,f⟩ k => ?_
  rw [Qcu]
  refine stT (decT (by omega)) (stO _ (a N) (stO _ rfl (stC rfl (stO _ rfl (stO _ rfl (stO _ rfl (stO _ rfl (stO _ rfl (stO _ rfl (stO _ rfl (stO _ rfl (stO _ rfl (stO _ rfl (stC (decT (by simp only [List.length_cons,List.length_nil]; omega)) (stO _ (e N) (stO _ rfl (stO _ rfl (stO _ rfl (stO _ rfl (stC rfl (stO _ rfl (stF rfl (stO _ rfl ?_)))))))))))))))))))))))
  rw [f]
  rfl
 | some y =>
  rw [hq] at e1
  have hy := hl _ _ hq
  have e2 := l3 hp hl i (cdv y.1) y.1 y.2.length y.2 (by omega) (by omega) (by omega)
  refine (ef.and (ec.and (e1.and (e2.and (Evt2.ge (y.2.length + 2)))))).mono fun N n ⟨a,e,f,g,hn⟩ k => ?_
  rw [Qcu]
  refine stT (decT (by omega)) (stO _ (a N) (stO _ rfl (stC rfl (stO _ rfl (stO _ rfl (stO _ rfl (stO _ rfl (stO _ rfl (stO _ rfl (stO _ rfl (stO _ rfl (stO _ rfl (stO _ rfl (stC (decT (by simp only [List.length_cons,List.length_nil]; omega)) (stO _ (e N) (stO _ rfl (stO _ rfl (stO _ rfl (stO _ rfl (stC rfl (stO _ rfl (stF rfl (stO _ rfl ?_)))))))))))))))))))))))
  rw [f]
  exact stO _ rfl (stC rfl (stO _ rfl (stO _ rfl (stO _ rfl (stO _ rfl (stO _ rfl (stO _ rfl (stO _ rfl (stO _ rfl (g k n (by omega)))))))))))
omit hp hl in
theorem miss (i:Int) (hi:i = 2 ∨ i = 3 ∨ i = 4) (s:Bs) (h:cutP (kwd i ++ [40]) s = none):Evt2 fun N n => ∀ k r,cond_reader_part_L1 N n k (i + 1) (.str s) = r → cond_reader_part_L1 N n (k + 1) i (.str s) = r := by
 obtain ⟨x3,x4,x5,x6,x7,x8,x9,jt,ef⟩ := Qxw i hi
 have hk := QoI i
 have ec := QlH s (kwd i ++ [40])
 rw [Qik h] at ec
 refine (ef.and ec).mono fun N n ⟨a,e⟩ k r hr => ?_
 rw [Qcu]
 refine stT (decT (by omega)) (stO _ (a N) (stO _ rfl (stC rfl (stO _ rfl (stO _ rfl (stO _ rfl (stO _ rfl (stO _ rfl (stO _ rfl (stO _ rfl (stO _ rfl (stO _ rfl (stO _ rfl (stC (decT (by simp only [List.length_cons,List.length_nil]; omega)) (stO _ (e N) (stO _ rfl (stO _ rfl (stO _ rfl (stO _ rfl (stC rfl (stO _ rfl (stT rfl ?_))))))))))))))))))))))
 rw [Qlp,Qad (by omega) (by omega)]
 exact hr
theorem part_step (s:Bs) (hs:s.length ≤ B) (hB:B ≤ 800000):Evt2 fun N n => PT N n s = some (Qgf (match Qh7 s with
  | some q => match p q.2 with
   | some x => Qex p q.1 (x.2.length + 1) [x.1] x.2
   | none => none
  | none => match Qha (QaJ 32 (Qbh s)) with
   | some c => some (c,Qgn s)
   | none => none)) := by
 have en:∀ {o:Option (Cd × Bs)},(Evt2 fun N n => ∀ k,cond_reader_part_L1 N n (k + 10) 2 (.str s) = some (Qgf o)) → Evt2 fun N n => PT N n s = some (Qgf o) := fun {o} h =>
  (h.and (Evt2.ge 10)).mono fun N n ⟨h,hn⟩ => by
   obtain ⟨m,rfl⟩ : ∃ m,n = m + 10 := ⟨n - 10,by omega⟩
   rw [Qni]
   exact h m
 refine en ?_
 unfold Qh7
 cases h2:cutP (kwd 2 ++ [40]) s with
 | some r => exact (hit hp hl 2 (.inl rfl) s r hs hB h2).mono fun N n f k => f (k + 9)
 | none =>
  have m2 := miss 2 (.inl rfl) s h2
  cases h3:cutP (kwd 3 ++ [40]) s with
  | some r => exact (m2.and (hit hp hl 3 (.inr (.inl rfl)) s r hs hB h3)).mono fun N n ⟨a,f⟩ k => a _ _ (f (k + 8))
  | none =>
   have m3 := miss 3 (.inr (.inl rfl)) s h3
   cases h4:cutP (kwd 4 ++ [40]) s with
   | some r => exact (m2.and (m3.and (hit hp hl 4 (.inr (.inr rfl)) s r hs hB h4))).mono fun N n ⟨a,b,f⟩ k => a _ _ (b _ _ (f (k + 7)))
   | none =>
    have m4 := miss 4 (.inr (.inr rfl)) s h4
    refine (m2.and (m3.and (m4.and (j7 5 s (by omega))))).mono fun N n ⟨a,b,c,f⟩ k => a _ _ (b _ _ (c _ _ ?_))
    show cond_reader_part_L1 N n (k + 6 + 1) 5 (.str s) = _
    rw [Qcu]
    exact stF (decF (by decide)) f
end K4
theorem QsH:∀ (k:Nat),k ≤ 800000 → ∀ s:Bs,s.length < k → Qqi s (Qca k s)
 | 0,_,s,h => by omega
 | k + 1,hk,s,h => by
  have := K4.part_step (p := Qca k) (B := k) (fun s hs => QsH k (by omega) s hs) (Qqf k) s (by omega) (by omega)
  obtain ⟨M,hM⟩ := this
  refine ⟨M + 1,fun N n h1 h2 => ?_⟩
  obtain ⟨N,rfl⟩ : ∃ m,N = m + 1 := ⟨N - 1,by omega⟩
  rw [Qca]
  exact hM N n (by omega) (by omega)
def Quy (o:Option (Cd × Bs)):CV := match o with
 | some x => .tup [cdv x.1, .bool x.2.isEmpty]
 | none => .tup [Quv, .bool false]
theorem QzZ (s:Bs) (hs:s.length < 800000):Qj4 s (Qgf (Qca (s.length + 1) s)) := by
 obtain ⟨M,hM⟩ := QsH (s.length + 1) (by omega) s (by omega)
 exact ⟨M,fun n hn => hM n n hn hn⟩
theorem Qun (lb:Nat) (s:Bs) (hs:s.length < 800000) (ht:Qjz s = none):Ret (lb + 2) Qf4 [.str s] (Quy (Qca (s.length + 1) s)) := by
 refine .lib (s := QdO) rfl ?_
 simp only [QdO,ht,QAY (QzZ s hs),Option.bind_some]
 cases Qca (s.length + 1) s with
 | none => rfl
 | some x => rfl
end Go.Proofs
