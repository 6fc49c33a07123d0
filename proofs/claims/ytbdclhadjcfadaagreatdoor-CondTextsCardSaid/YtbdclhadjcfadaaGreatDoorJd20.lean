/- Arguments of chapter 20, opened: conditions and trips. Conditions: none. -/
import Derived.Test.YtbdclhadjcfadaaGreatDoorJc
import Derived.Test.YtbdclhadjcfadaaGreatDoorAmC
import Derived.Test.YtbdclhadjcfadaaGreatDoorCA
namespace Go.Proofs.YtbdclhadjcfadaaGreatDoor
open Go.ChangeShapes Go.WideShapes Go.ChangeAt Go.RowKit Go.Am
theorem QnZ {α : Type} {P:Program} {n:Nat} {e:TypeId} {enc : α → List CV} {good : α → Prop} (h:∀ x,Ty P n e x → ∃ a,x = enc a ∧ good a) {xs:List (List CV)} (hx:∀ x ∈ xs,Ty P n e x):∃ l:List α,xs = l.map enc ∧ ∀ a ∈ l,good a := by
 induction xs with
 | nil => exact ⟨[],rfl,fun _ h => by cases h⟩
 | cons x xs ih =>
  obtain ⟨l,rfl,hl⟩ := ih fun y hy => hx y (List.mem_cons_of_mem _ hy)
  obtain ⟨a,rfl,ha⟩ := h x (hx x (List.mem_cons_self ..))
  refine ⟨a :: l,rfl,fun w hw => ?_⟩
  rcases List.mem_cons.1 hw with rfl | hw
  ·exact ha
  ·exact hl w hw
theorem Qzu {n b:Nat} (h:n * b ≤ reachBytes) (hb:1 ≤ b):n ≤ 281474976710656 := by
 have := QvK
 have:n * 1 ≤ n * b := Nat.mul_le_mul (Nat.le_refl _) hb
 omega
section
variable {P:Program} {n:Nat} {t e:TypeId} {l:List CV} {c:CV}
theorem QdV {k:IntKind} (hu:P.underlying t = some (.int k)) (h:Ty P n t l):∃ z,l = [.int k z] := by
 cases n with
 | zero => exact h.elim
 | succ n => exact (Ty.int hu h).imp fun _ h => h.1
theorem QrS (hu:P.underlying t = some .string) (h:Ty P n t l):∃ s:List UInt8,l = [.str s] ∧ s.length ≤ 281474976710656 := by
 cases n with
 | zero => exact h.elim
 | succ n => exact (Ty.str hu h).imp fun _ h => ⟨h.1,Nat.le_trans h.2 QvK⟩
theorem Qmd {fs:Array Field} {ts:List TypeId} (hu:P.underlying t = some (.struct fs)) (hts:fs.toList.map (·.type) = ts) (h:Ty P n t l):∃ m,m < n ∧ TyF (Ty P m) ts l := by
 cases n with
 | zero => exact h.elim
 | succ n => exact ⟨n,Nat.lt_succ_self n,Ty.struct hu hts h⟩
theorem QnJ (hu:P.underlying t = some (.slice e)) (hb:1 ≤ P.bytesOf e) (h:Ty P n t l):∃ m,m < n ∧ ∃ nl xs,l = [.list nl xs] ∧ xs.length ≤ 281474976710656 ∧ ∀ x ∈ xs,Ty P m e x := by
 cases n with
 | zero => exact h.elim
 | succ n =>
  obtain ⟨nl,xs,h1,_,h2,h3⟩ := Ty.slice hu h
  exact ⟨n,Nat.lt_succ_self n,nl,xs,h1,Qzu h2 hb,h3⟩
theorem QpN (hu:P.underlying t = some (.slice e)) (he:P.underlying e = some .string) (hb:1 ≤ P.bytesOf e) (h:Ty P n t l):∃ nl xs,l = [.list nl (scv xs)] ∧ xs.length ≤ 281474976710656 ∧ ∀ s ∈ xs,s.length ≤ 281474976710656 := by
 obtain ⟨m,_,nl,xs,rfl,h1,h2⟩ := QnJ hu hb h
 obtain ⟨l,rfl,hl⟩ := QnZ (enc := fun s:List UInt8 => [CV.str s]) (fun x hx => QrS he hx) h2
 rw [List.length_map] at h1
 exact ⟨nl,l,rfl,h1,hl⟩
theorem QAS {k:IntKind} (hu:P.underlying t = some (.slice e)) (he:P.underlying e = some (.int k)) (hb:1 ≤ P.bytesOf e) (h:Ty P n t l):∃ nl, ∃ xs:List Int,l = [.list nl (xs.map fun z => [CV.int k z])] ∧ xs.length ≤ 281474976710656 := by
 obtain ⟨m,_,nl,xs,rfl,h1,h2⟩ := QnJ hu hb h
 obtain ⟨l,rfl,hl⟩ := QnZ (enc := fun s:Int => [CV.int k s]) (good := fun _ => True) (fun x hx => (QdV he hx).imp fun _ h => ⟨h,trivial⟩) h2
 rw [List.length_map] at h1
 exact ⟨nl,l,rfl,h1⟩
theorem ArgTyR.agg (ha:QaV P t = true) (h:ArgTyR P t c):∃ n l,c = .agg l ∧ Ty P n t l := by
 unfold ArgTyR at h
 rw [ha] at h
 exact h
end
set_option maxRecDepth 100000 in
theorem QCP:∀ (n:Nat) (x:List CV),Ty Tryz.prog n 27 x → ∃ c:Cd,x = ccv c ∧ Fits c := by
 intro n
 induction n using Nat.strongRecOn with
 | _ n ih =>
  intro x h
  obtain ⟨m,hm,h⟩ := Qmd (ts := [3,22,3,3,24,25]) Tryz.underlying27 rfl h
  obtain ⟨p1,r1,rfl,h1,hr⟩ := QbL h
  obtain ⟨p2,r2,rfl,h2,hr⟩ := QbL hr
  obtain ⟨p3,r3,rfl,h3,hr⟩ := QbL hr
  obtain ⟨p4,r4,rfl,h4,hr⟩ := QbL hr
  obtain ⟨p5,r5,rfl,h5,hr⟩ := QbL hr
  obtain ⟨p6,r6,rfl,h6,hr⟩ := QbL hr
  obtain rfl := Qso hr
  obtain ⟨k,rfl⟩ := QdV Tryz.underlying3 h1
  obtain ⟨q,hq,ln,xs,rfl,hlen,hxs⟩ := QnJ Tryz.underlying22 (of_decide_eq_true (by kernel_rfl)) h2
  obtain ⟨l,rfl,hl⟩ := QnZ (enc := ccv) (good := Fits) (fun x hx => ih q (by omega) x hx) hxs
  obtain ⟨a,rfl⟩ := QdV Tryz.underlying3 h3
  obtain ⟨b,rfl⟩ := QdV Tryz.underlying3 h4
  obtain ⟨m2,_,h5⟩ := Qmd (ts := [3,3,3]) Tryz.underlying24 rfl h5
  obtain ⟨q1,s1,rfl,g1,gr⟩ := QbL h5
  obtain ⟨q2,s2,rfl,g2,gr⟩ := QbL gr
  obtain ⟨q3,s3,rfl,g3,gr⟩ := QbL gr
  obtain rfl := Qso gr
  obtain ⟨fr,rfl⟩ := QdV Tryz.underlying3 g1
  obtain ⟨tt,rfl⟩ := QdV Tryz.underlying3 g2
  obtain ⟨days,rfl⟩ := QdV Tryz.underlying3 g3
  obtain ⟨tn,tx,rfl,ht,hs⟩ := QpN Tryz.underlying25 Tryz.underlying9 (of_decide_eq_true (by kernel_rfl)) h6
  rw [List.length_map] at hlen
  refine ⟨.mk k ln l a b fr tt days tn tx, ?_,(Qju _).2 ⟨hlen,hl,ht,hs⟩⟩
  rw [Qhe]
  rfl
set_option maxRecDepth 100000 in
theorem QCx {c:CV} (h:ArgTyR Tryz.prog 27 c):∃ x:Cd,c = cdv x ∧ Fits x := by
 obtain ⟨n,l,rfl,h'⟩ := ArgTyR.agg (by unfold QaV; rw [Tryz.underlying27]) h
 obtain ⟨x,rfl,hx⟩ := QCP n l h'
 exact ⟨x,by rw [Qhe],hx⟩
set_option maxRecDepth 100000 in
theorem QBX {c:CV} (h:ArgTyR Tryz.prog 9 c):∃ s:List UInt8,c = .str s := by
 unfold ArgTyR at h
 rw [show QaV Tryz.prog 9 = false by unfold QaV; rw [Tryz.underlying9]] at h
 obtain ⟨n,h⟩ := h
 obtain ⟨s,e,_⟩ := QrS Tryz.underlying9 h
 exact ⟨s,by cases e; rfl⟩
set_option maxRecDepth 100000 in
theorem QCZ {c:CV} (h:ArgTyR Tryz.prog 43 c):∃ t:Tp,c = tpv t := by
 obtain ⟨n,l,rfl,h'⟩ := ArgTyR.agg (by unfold QaV; rw [Tryz.underlying43]) h
 obtain ⟨m,_,h⟩ := Qmd (ts := [9,3,3,3,3,3,25,39,25]) Tryz.underlying43 rfl h'
 obtain ⟨p1,r1,rfl,h1,hr⟩ := QbL h
 obtain ⟨p2,r2,rfl,h2,hr⟩ := QbL hr
 obtain ⟨p3,r3,rfl,h3,hr⟩ := QbL hr
 obtain ⟨p4,r4,rfl,h4,hr⟩ := QbL hr
 obtain ⟨p5,r5,rfl,h5,hr⟩ := QbL hr
 obtain ⟨p6,r6,rfl,h6,hr⟩ := QbL hr
 obtain ⟨p7,r7,rfl,h7,hr⟩ := QbL hr
 obtain ⟨p8,r8,rfl,h8,hr⟩ := QbL hr
 obtain ⟨p9,r9,rfl,h9,hr⟩ := QbL hr
 obtain rfl := Qso hr
 obtain ⟨ty,rfl,_⟩ := QrS Tryz.underlying9 h1
 obtain ⟨sale,rfl⟩ := QdV Tryz.underlying3 h2
 obtain ⟨day,rfl⟩ := QdV Tryz.underlying3 h3
 obtain ⟨mi,rfl⟩ := QdV Tryz.underlying3 h4
 obtain ⟨st,rfl⟩ := QdV Tryz.underlying3 h5
 obtain ⟨tr,rfl⟩ := QdV Tryz.underlying3 h6
 obtain ⟨cn,car,rfl,_⟩ := QpN Tryz.underlying25 Tryz.underlying9 (of_decide_eq_true (by kernel_rfl)) h7
 obtain ⟨nn,nums,rfl,_⟩ := QAS Tryz.underlying39 Tryz.underlying3 (of_decide_eq_true (by kernel_rfl)) h8
 obtain ⟨vn,vias,rfl,_⟩ := QpN Tryz.underlying25 Tryz.underlying9 (of_decide_eq_true (by kernel_rfl)) h9
 exact ⟨⟨ty,sale,day,mi,st,tr,cn,car,nn,nums,vn,vias⟩,rfl⟩
end Go.Proofs.YtbdclhadjcfadaaGreatDoor
