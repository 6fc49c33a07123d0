/- Chapter 35: the reference's check of a booking gives the same violations. Conditions: as each says. -/
import Derived.Test.YtigmcfhmpcajlaaGreatDoorCq
import Derived.Test.YtigmcfhmpcajlaaGreatDoorBD
import Derived.Test.YtigmcfhmpcajlaaGreatDoorGx
set_option linter.unusedSimpArgs false
set_option linter.unusedVariables false
namespace Go.Proofs
open Go.Am
variable (lb : Nat)
theorem Qo8 (bn : Bool) (l : List Int) (hl : l.length ≤ 1000000) (i : Int) (h0 : 0 ≤ i) (h1 : i < (l.length : Int)) : Ret lb Qda [.list bn (l.map icv), .int .i64 i] (.bool (Qfj l i)) := by
 refine .top rfl (.all fun n => ?_)
 have hlen : (((l.map icv).length : Nat) : Int) = (l.length : Int) := by simp
 have w1 : IntKind.wrap .i64 (i - 1) = i - 1 := QaK (by omega) (by omega)
 have w2 : IntKind.wrap .i64 (i + 1) = i + 1 := QaK (by omega) (by omega)
 have ai := Qeu h0 h1
 rw [Qmo, w1, w2, hlen]
 unfold Qfj
 by_cases hi : i > 0
 ·have am := Qeu (l := l) (i := i - 1) (by omega) (by omega)
  refine stT (decT hi) (stO _ am (stC rfl (stO _ rfl (stO _ ai (stC rfl (stO _ rfl (stO _ (Qa2 ..) (stO _ (Qa2 ..) ?_))))))))
  rw [decT hi]
  cases he : nthI l (i - 1) == nthI l i with
  | true => exact stT rfl rfl
  | false =>
   refine stF rfl ?_
   by_cases hj : i + 1 < (l.length : Int)
   ·have ap := Qeu (l := l) (i := i + 1) (by omega) hj
    rw [decT hj]
    exact stT rfl (stO _ ap (stC rfl (stO _ rfl (stO _ ai (stC rfl (stO _ rfl (stO _ (Qa2 ..) (stO _ (Qa2 ..) rfl))))))))
   ·rw [decF hj]
    exact stF rfl rfl
 ·refine stF (decF hi) ?_
  rw [decF hi]
  by_cases hj : i + 1 < (l.length : Int)
  ·have ap := Qeu (l := l) (i := i + 1) (by omega) hj
   rw [decT hj]
   exact stT rfl (stO _ ap (stC rfl (stO _ rfl (stO _ ai (stC rfl (stO _ rfl (stO _ (Qa2 ..) (stO _ (Qa2 ..) rfl))))))))
  ·rw [decF hj]
   exact stF rfl rfl
theorem Qss (n wJ : Nat) (bn : Bool) (l : List Int) (jS : Int) (hl : l.length ≤ 1000000) (i : Nat) (hi : i < l.length) : ∀ (d j : Nat), (j + d = l.length ∨ (d = 0 ∧ l.length ≤ j ∧ j ≤ 1000002)) → i + 2 ≤ j → ∀ k, d < k →
  QcT lb n k wJ bn (l.map icv) jS ((i : Nat) : Int) (j : Int) = if (decide (nthI l (i : Int) > 0) && Qfn l (i : Int) j d) = true then some (.int .i64 18) else QdX lb n wJ bn (l.map icv) jS (IntKind.wrap .i64 ((i : Int) + 1))
 | 0, j, h, hj, k, hk => by
  obtain ⟨k, rfl⟩ : ∃ m, k = m + 1 := ⟨k - 1, by omega⟩
  rw [QgR]
  refine stF (decF (by simp; omega)) ?_
  rw [Qms]
  simp [Qfn]
 | d + 1, j, h, hj, k, hk => by
  obtain ⟨k, rfl⟩ : ∃ m, k = m + 1 := ⟨k - 1, by omega⟩
  have hw : IntKind.wrap .i64 ((j : Int) + 1) = ((j + 1 : Nat) : Int) := by rw [QaK (by omega) (by omega)]; omega
  have hw1 : IntKind.wrap .i64 ((j : Int) - 1) = (j : Int) - 1 := QaK (by omega) (by omega)
  have ih := Qss n wJ bn l jS hl i hi d (j + 1) (.inl (by omega)) (by omega) k (by omega)
  have ai := Qeu (l := l) (i := (i : Int)) (by omega) (by omega)
  have aj := Qeu (l := l) (i := (j : Int)) (by omega) (by omega)
  have am := Qeu (l := l) (i := (j : Int) - 1) (by omega) (by omega)
  rw [QgR, hw, hw1]
  refine stT (decT (by simp; omega)) (stO _ ai (stC rfl (stO _ rfl (stO _ (Qa2 ..) ?_))))
  cases hp : decide (nthI l (i : Int) > 0) with
  | false =>
   rw [hp] at ih
   refine stF rfl (ih.trans ?_)
   simp
  | true =>
   rw [hp] at ih
   refine stT rfl (stO _ aj (stC rfl (stO _ rfl (stO _ ai (stC rfl (stO _ rfl (stO _ (Qa2 ..) (stO _ (Qa2 ..) ?_))))))))
   unfold Qfn
   cases he : nthI l (j : Int) == nthI l (i : Int) with
   | false => exact stF rfl (ih.trans (by simp))
   | true =>
    refine stT rfl (stO _ am (stC rfl (stO _ rfl (stO _ ai (stC rfl (stO _ rfl (stO _ (Qa2 ..) (stO _ (Qa2 ..) ?_))))))))
    cases hq : nthI l ((j : Int) - 1) != nthI l (i : Int) with
    | true => exact stT rfl (by simp)
    | false => exact stF rfl (ih.trans (by simp))
theorem Qsm (n : Nat) (bn : Bool) (l : List Int) (jS : Int) (hl : l.length ≤ 1000000) (hn : l.length < n) (hN : ∀ i ∈ upTo l.length, C lb n Qda [.list bn (l.map icv), .int .i64 i] = some (.bool (Qfj l i))) : ∀ (d i : Nat), i + d = l.length → ∀ k, d < k →
  QdX lb n k bn (l.map icv) jS (i : Int) = some (.int .i64 (if badR l i d then 18 else 0))
 | 0, i, h, k, hk => by
  obtain ⟨k, rfl⟩ : ∃ m, k = m + 1 := ⟨k - 1, by omega⟩
  rw [QgQ]
  refine stF (decF (by simp; omega)) ?_
  rw [Qny]; rfl
 | d + 1, i, h, k, hk => by
  obtain ⟨k, rfl⟩ : ∃ m, k = m + 1 := ⟨k - 1, by omega⟩
  have hw : IntKind.wrap .i64 ((i : Int) + 1) = ((i + 1 : Nat) : Int) := by rw [QaK (by omega) (by omega)]; omega
  have hw2 : IntKind.wrap .i64 ((i : Int) + 2) = ((i + 2 : Nat) : Int) := by rw [QaK (by omega) (by omega)]; omega
  have ih := Qsm n bn l jS hl hn hN d (i + 1) (by omega) k (by omega)
  have ai := Qeu (l := l) (i := (i : Int)) (by omega) (by omega)
  have h4 := Qss lb n k bn l jS hl i (by omega) (l.length - (i + 2)) (i + 2) (by omega) (by omega) n (by omega)
  rw [hw, ih] at h4
  rw [QgQ, hw2]
  refine stT (decT (by simp; omega)) (stO _ ai (stC rfl (stO _ rfl (stO _ (Qa2 ..) ?_))))
  unfold badR
  cases hp : decide (nthI l (i : Int) > 0) with
  | false =>
   rw [hp] at h4
   exact stF rfl (h4.trans (by simp))
  | true =>
   rw [hp] at h4
   refine stT rfl (stO _ (hN (i : Int) (Qd4.2 ⟨by omega, by omega⟩)) (stO _ (QaL _) ?_))
   cases hb : Qfj l (i : Int) with
   | false => exact stT rfl (by simp)
   | true =>
    refine stF rfl (h4.trans ?_)
    cases Qfn l (i : Int) (i + 2) (l.length - (i + 2)) <;> simp
theorem Qpb (bn : Bool) (l : List Int) (hl : l.length ≤ 1000000) : Ret lb Qal [.list bn (l.map icv)] (.int .i64 (marE l)) := by
 rw [← Quh]
 have hN : Evt fun n => ∀ i ∈ upTo l.length, C lb n Qda [.list bn (l.map icv), .int .i64 i] = some (.bool (Qfj l i)) := Evt.fin (upTo l.length) fun i hi => Qo8 lb bn l hl i (Qd4.1 hi).1 (Qd4.1 hi).2
 refine .top rfl ((Evt.diag (QdT (enc := icv) (l := l) (P := fun p t n k => Qfq lb n k bn (l.map icv) (p.length : Int) = some (.int .i64 (if t.any (fun x => decide (x < 0)) then 2 else if badR l 0 l.length then 18 else 0))) (by omega)
  (Evt.imp2 hN (Evt.ge (l.length + 1)) fun n h1 h2 k => by
   rw [QgT]
   refine stF (decF (by simp)) ?_
   rw [Qnf]
   exact Qsm lb n bn l _ hl (by omega) h1 l.length 0 (by omega) n (by omega))
  (fun p y t h h1 h2 h3 ih => ih.mono fun n hi k hk => by
   rw [QgT, List.any_cons]
   refine stT (decT h1) (stO _ h2 (stC rfl (stO _ rfl (stO _ (Qa2 ..) ?_))))
   cases hy : decide (y < 0) with
   | true => exact stT rfl rfl
   | false =>
    refine stF rfl ?_
    rw [h3, hi k hk]
    rfl) l [] rfl)).mono fun n h => by rw [QpY]; exact h)
theorem Qmq (b : Bk) (hl : b.segs.length ≤ 1000000) : Ret lb Qa5 [.agg (bkE b)] (.list b.segs.isEmpty ((mars b.segs).map icv)) :=
 .top rfl ((Evt.diag (QdT (enc := sgE) (l := b.segs) (P := fun p t n k => Qek lb n k b.loc b.pn (b.ps.map peE) b.grp b.bn (b.segs.map sgE) b.rn (b.svs.map svE) b.lim p.isEmpty ((mars p).map icv) (p.length : Int) = some (.list b.segs.isEmpty ((mars b.segs).map icv))) (by omega)
  (.all fun n k => by
   rw [QfQ]
   refine stF (decF (by simp)) ?_
   rw [Qlp])
  (fun p x t h h1 h2 h3 ih => ih.mono fun n hi k hk => by
   have hpl : p.length + (t.length + 1) = b.segs.length := by rw [← h]; simp
   rw [QfQ]
   refine stT (decT h1) (stO _ h2 (stC rfl (stO _ rfl (stC rfl (stC (Qev (by simp [mars]; omega)) ?_)))))
   rw [h3]
   have := hi k hk
   have e : (p.isEmpty && false) = (p ++ [x]).isEmpty := by simp
   rw [e]
   simpa [mars, icv] using this) b.segs [] rfl)).mono fun n h => by
   rw [show top lb n Qa5 [.agg (bkE b)] = _ from QnF lb n b.loc b.pn (b.ps.map peE) b.grp b.bn (b.segs.map sgE) b.rn (b.svs.map svE) b.lim]
   exact h)
theorem Qo4 : Ret lb Qie [] (.list false [[CV.str []], [CV.str [72, 75]], [CV.str [72, 76]], [CV.str [75, 76]], [CV.str [84, 75]], [CV.str [85, 78]], [CV.str [85, 67]], [CV.str [88, 88]]]) := .top rfl (.all fun n => Qqe lb n)
theorem QpL (x : Int) : Ret lb Qi8 [.int .i64 x] (Qhd x) :=
 .top rfl ((Qo4 lb).mono fun n h => by
  rw [QqD]
  unfold Qhd
  by_cases h1 : x ≤ 0
  ·have : stOk x = false := by simp [stOk]; omega
   rw [this]
   exact stT (decT h1) rfl
  ·by_cases h2 : x > 7
   ·have : stOk x = false := by simp [stOk]; omega
    rw [this]
    exact stF (decF h1) (stT (decT h2) rfl)
   ·have h3 : x = 1 ∨ x = 2 ∨ x = 3 ∨ x = 4 ∨ x = 5 ∨ x = 6 ∨ x = 7 := by omega
    refine stF (decF h1) (stF (decF h2) (stO _ h (stO _ rfl ?_)))
    rcases h3 with rfl | rfl | rfl | rfl | rfl | rfl | rfl <;> exact stO _ rfl (stC rfl (stO _ rfl rfl)))
theorem Quo (s : Sg) (l : List Int) (hl : l.length ≤ 3) : Evt fun n => Qer lb n s.car s.num s.day s.fr s.to s.dep s.arr s.cls s.st s.mar l.isEmpty (l.map icv) = some (errV (l ++ Qbb (stOk s.st) 10)) :=
 (QpL lb s.st).mono fun n h => by
  rw [Qlf]
  refine stO _ h ?_
  unfold Qhd
  cases stOk s.st with
  | true =>
   refine stO _ rfl (stO _ rfl (stO _ rfl (stO _ rfl (stO _ rfl (stF rfl ?_)))))
   show _ = some (errV (l ++ []))
   rw [List.append_nil]; rfl
  | false =>
   refine stO _ rfl (stO _ rfl (stO _ rfl (stO _ rfl (stO _ rfl (stT rfl (stC (Qgk (by omega)) ?_))))))
   rw [Qhc, Qhb l 10]; rfl
theorem QtR (s : Sg) (hc : s.cls.length ≤ 281474976710656) (l : List Int) (hl : l.length ≤ 2) : Evt fun n => QcC lb n s.car s.num s.day s.fr s.to s.dep s.arr s.cls s.st s.mar l.isEmpty (l.map icv) = some (errV ((l ++ Qbb (Qcw s.cls) 16) ++ Qbb (stOk s.st) 10)) := by
 refine Evt.imp2 (Qpa lb s.cls hc) (Quo lb s (l ++ Qbb (Qcw s.cls) 16) (by unfold Qbb; cases Qcw s.cls <;> simp <;> omega)) fun n h h3 => ?_
 rw [Qld]
 refine stO _ h (stO _ (QaL _) ?_)
 cases hc : Qcw s.cls with
 | true =>
  rw [hc] at h3
  refine stF rfl ?_
  have e : l ++ Qbb true 16 = l := List.append_nil l
  rw [e] at h3 ⊢
  exact h3
 | false =>
  rw [hc] at h3
  refine stT rfl (stC (Qgk (by omega)) ?_)
  rw [Qhc, Qhb l 16]
  exact h3
theorem QtX (s : Sg) (hc : s.cls.length ≤ 281474976710656) (l : List Int) (hl : l.length ≤ 1) : Evt fun n => QcK lb n s.car s.num s.day s.fr s.to s.dep s.arr s.cls s.st s.mar l.isEmpty (l.map icv) = some (errV (((l ++ Qbb (Qc1 s) 13) ++ Qbb (Qcw s.cls) 16) ++ Qbb (stOk s.st) 10)) := by
 refine (QtR lb s hc (l ++ Qbb (Qc1 s) 13) (by unfold Qbb; cases Qc1 s <;> simp <;> omega)).mono fun n h => ?_
 rw [Qlm]
 cases ht : Qc1 s with
 | true =>
  rw [ht] at h
  have e : l ++ Qbb true 13 = l := List.append_nil l
  rw [e] at h ⊢
  simp only [Qc1, decide_eq_true_eq] at ht
  exact stF (decF (by omega)) (stF (decF (by omega)) (stF (decF (by omega)) h))
 | false =>
  rw [ht] at h
  simp only [Qc1, decide_eq_false_iff_not] at ht
  rw [Qhc, Qhb l 13]
  by_cases h1 : s.dep < 0
  ·exact stT (decT h1) (stC (Qgk (by omega)) h)
  ·by_cases h2 : s.dep ≥ s.arr
   ·exact stF (decF h1) (stT (decT (by omega)) (stC (Qgk (by omega)) h))
   ·exact stF (decF h1) (stF (decF (by omega)) (stT (decT (by omega)) (stC (Qgk (by omega)) h)))
theorem Qtr (s : Sg) (hc : s.cls.length ≤ 281474976710656) (h1 : s.car.length ≤ 281474976710656) (h2 : s.fr.length ≤ 281474976710656) (h3 : s.to.length ≤ 281474976710656) : Ret lb Qa6 [.agg (sgE s)] (errV (Qcn s)) := by
 refine .top rfl (Evt.imp2 (Evt.imp2 (Qm3 lb s.car h1) (Evt.imp2 (QhW lb s.fr h2) (QhW lb s.to h3) fun n a b => (⟨a, b⟩ : _ ∧ _)) fun n a b => (⟨a, b⟩ : _ ∧ _)) (QtX lb s hc (Qbb (Qcb s) 5) (by unfold Qbb; cases Qcb s <;> simp)) fun n ⟨c1, c2, c3⟩ h => ?_)
 rw [show top lb n Qa6 [.agg (sgE s)] = _ from Qoh lb n s.car s.num s.day s.fr s.to s.dep s.arr s.cls s.st s.mar]
 refine stO _ c1 (stO _ (QaL _) ?_)
 unfold Qcn
 cases k1 : Qe1 s.car with
 | false =>
  have : Qcb s = false := by unfold Qcb; rw [k1]; rfl
  rw [this] at h ⊢
  exact stT rfl h
 | true =>
  refine stF rfl (stO _ c2 (stO _ (QaL _) ?_))
  cases k2 : Qcs s.fr with
  | false =>
   have : Qcb s = false := by unfold Qcb; rw [k1, k2]; rfl
   rw [this] at h ⊢
   exact stT rfl h
  | true =>
   refine stF rfl (stO _ c3 (stO _ (QaL _) ?_))
   have : Qcb s = Qcs s.to := by unfold Qcb; rw [k1, k2]; rfl
   rw [this] at h ⊢
   cases k3 : Qcs s.to with
   | false => rw [k3] at h; exact stT rfl h
   | true => rw [k3] at h; exact stF rfl h
def PeSm (p : Pe) : Prop := p.la.length ≤ 1000000000 ∧ p.fi.length ≤ 1000000000 ∧ p.ty.length ≤ 281474976710656
theorem QoR (p : Pe) (h : PeSm p) : Ret lb Qgj [.agg (peE p)] (.bool (QdD p)) :=
 .top rfl (Evt.imp2 (Qkr lb p.la h.1) (Qkr lb p.fi h.2.1) fun n h1 h2 => by
  rw [show top lb n Qgj [.agg (peE p)] = _ from QpK lb n p.la p.fi p.ty]
  refine stO _ h1 (stO _ (QaL _) ?_)
  unfold QdD
  cases QfG p.la with
  | true => exact stT rfl (stO _ h2 rfl)
  | false => exact stF rfl rfl)
theorem Qpc (p : Pe) (h : PeSm p) : Ret lb Qgl [.agg (peE p)] (.bool (QeK p)) :=
 .top rfl ((Qfl lb p.ty 3 3 h.2.2).mono fun n h1 => by
  rw [show top lb n Qgl [.agg (peE p)] = _ from QpP lb n p.la p.fi p.ty]
  exact stO _ h1 rfl)
theorem QkZ (bn : Bool) (l : List Pe) (hl : l.length ≤ 1000000) : ∀ (t u : List Pe) (i a : Int), u ++ t = l → 0 ≤ i → i ≤ (u.length : Int) → 0 ≤ a → a ≤ (u.length : Int) → ∀ n k, t.length < k → QdL lb n k bn (l.map peE) i a (u.length : Int) = some (.bool (!decide (QbT (i - a) t > 0)))
 | [], u, i, a, h, _, _, _, _, n, k, hk => by
  obtain ⟨k, rfl⟩ : ∃ j, k = j + 1 := ⟨k - 1, by simp at hk; omega⟩
  have hu : u = l := by simpa using h
  rw [Qhx, hu]
  refine stF (decF (by simp)) ?_
  rw [QnT]
  have : decide (i ≤ a) = !decide (i - a > 0) := by by_cases h : i ≤ a <;> simp [h] <;> omega
  rw [this]; rfl
 | p :: t, u, i, a, h, i0, i1, a0, a1, n, k, hk => by
  obtain ⟨k, rfl⟩ : ∃ j, k = j + 1 := ⟨k - 1, by simp at hk; omega⟩
  have hul : u.length + (t.length + 1) = l.length := by rw [← h]; simp
  have hw : IntKind.wrap .i64 ((u.length : Int) + 1) = ((u ++ [p]).length : Int) := by rw [QaK (by omega) (by omega)]; simp
  have hat : atL (l.map peE) (u.length : Int) = some (peE p) := Qdk (by rw [List.getElem?_map, ← h]; simp)
  have wi : IntKind.wrap .i64 (i + 1) = i + 1 := QaK (by omega) (by omega)
  have wa : IntKind.wrap .i64 (a + 1) = a + 1 := QaK (by omega) (by omega)
  have hul2 : ((u ++ [p]).length : Int) = (u.length : Int) + 1 := by simp
  rw [Qhx, hw, wi, wa]
  unfold QbT
  refine stT (decT (by simp; omega)) (stO _ hat (stC rfl (stO _ rfl (stO _ rfl ?_))))
  cases hI : infB p with
  | true =>
   have hA : aduB p = false := by unfold aduB; rw [hI]; rfl
   have ih := QkZ bn l hl t (u ++ [p]) (i + 1) a (by rw [← h]; simp) (by omega) (by omega) a0 (by omega) n k (by simp at hk; omega)
   refine stT hI (ih.trans ?_)
   rw [hA]
   simp only [cond_true, cond_false]
   rw [show i + 1 - a = i - a + 1 - 0 by omega]
  | false =>
   refine stF hI (stO _ hat (stC rfl (stO _ rfl (stO _ rfl ?_))))
   cases hA : aduB p with
   | true =>
    have ih := QkZ bn l hl t (u ++ [p]) i (a + 1) (by rw [← h]; simp) i0 (by omega) (by omega) (by omega) n k (by simp at hk; omega)
    have hc : (!(p.ty == [67, 72, 68])) = true := by unfold aduB at hA; rw [hI] at hA; simpa using hA
    refine stT hc (ih.trans ?_)
    simp only [cond_true, cond_false]
    rw [show i - (a + 1) = i - a + 0 - 1 by omega]
   | false =>
    have ih := QkZ bn l hl t (u ++ [p]) i a (by rw [← h]; simp) i0 (by omega) a0 (by omega) n k (by simp at hk; omega)
    have hc : (!(p.ty == [67, 72, 68])) = false := by unfold aduB at hA; rw [hI] at hA; simpa using hA
    exact stF hc (ih.trans (by simp))
theorem Qs3 (bn : Bool) (l : List Pe) (hl : l.length ≤ 1000000) : Ret lb QbL [.list bn (l.map peE)] (.bool (!decide (QbT 0 l > 0))) :=
 .top rfl ((Evt.ge (l.length + 1)).mono fun n hn => by
  rw [Qq0]
  exact QkZ lb bn l hl l [] 0 0 rfl (by omega) (by omega) (by omega) (by omega) n n (by omega))
theorem Qko (bn : Bool) (ps : List Pe) (i : Int) (l : List Fau) (g : Int) (hps : ps.length ≤ 1000000) (hl : l.length ≤ 900000) (g0 : 0 ≤ g) (g1 : g ≤ 99) :
  Evt fun n => Qea lb n bn (ps.map peE) i g l.isEmpty (l.map fauE) = some (QaG ((l ++ Qap (QaI ps.length g) 4 QaH) ++ Qap (decide (QbT 0 ps > 0)) 25 QaH)) :=
 (Qs3 lb bn ps hps).mono fun n h => by
  have hlen : (((ps.map peE).length : Nat) : Int) = (ps.length : Int) := by simp
  have hw : IntKind.wrap .i64 ((ps.length : Int) + g) = (ps.length : Int) + g := QaK (by omega) (by omega)
  have five : ∀ F : List Fau, F.length ≤ 999999 → QbE lb n bn (ps.map peE) g i F.isEmpty (F.map fauE) = some (QaG (F ++ Qap (decide (QbT 0 ps > 0)) 25 QaH)) := fun F hF => by
   rw [Qnl]
   refine stO _ h (stO _ (QaL _) ?_)
   rw [Bool.not_not]
   exact acc (decide (QbT 0 ps > 0)) F 25 QaH hF (fun b l => some (.list b l))
  have bad := (accT l 4 QaH (by omega) (fun b m => QbE lb n bn (ps.map peE) g i b m)).trans (five (l ++ Qap true 4 QaH) (by have := QaR true 4 QaH; rw [List.length_append]; omega))
  have good := (accF l 4 QaH (fun b m => QbE lb n bn (ps.map peE) g i b m)).trans (five (l ++ Qap false 4 QaH) (by have := QaR false 4 QaH; rw [List.length_append]; omega))
  rw [Qna, hlen, hw]
  by_cases h0 : (ps.length : Int) + g = 0
  ·rw [show QaI ps.length g = true by simp [QaI, h0]]
   exact stT (beqT h0) bad
  refine stF (beqF h0) ?_
  by_cases hg : g = 0
  ·refine stT (beqT hg) ?_
   by_cases h9 : (ps.length : Int) > 9
   ·rw [show QaI ps.length g = true by simp [QaI, hg]; omega]
    exact stT (decT h9) bad
   refine stF (decF h9) ?_
   by_cases h99 : (ps.length : Int) + g > 99
   ·omega
   rw [show QaI ps.length g = false by simp [QaI]; omega]
   exact stF (decF h99) good
  ·refine stF (beqF hg) ?_
   by_cases h99 : (ps.length : Int) + g > 99
   ·rw [show QaI ps.length g = true by simp [QaI]; omega]
    exact stT (decT h99) bad
   rw [show QaI ps.length g = false by simp [QaI]; omega]
   exact stF (decF h99) good
theorem QsB (bn : Bool) (ps : List Pe) (grp i : Int) (l : List Fau) (hps : ps.length ≤ 1000000) (hl : l.length ≤ 800000) :
  Evt fun n => Qhq lb n bn (ps.map peE) grp l.isEmpty (l.map fauE) i = some (QaG (l ++ QfX ps grp)) := by
 unfold QfX
 by_cases h0 : grp < 0
 ·have hb : Qcu grp = true := by simp [Qcu, h0]
  refine (Qko lb bn ps i (l ++ [(2, QaH)]) 0 hps (by simp; omega) (by omega) (by omega)).mono fun n h => ?_
  rw [QfC]
  refine stT (decT h0) (stC (QeH (by omega)) ?_)
  rw [QdJ, QdO l (2, [112, 97, 114, 116, 121]), hb]
  simpa [Qap, QaH] using h
 by_cases h1 : grp > 99
 ·have hb : Qcu grp = true := by simp [Qcu, h1]
  refine (Qko lb bn ps i (l ++ [(2, QaH)]) 0 hps (by simp; omega) (by omega) (by omega)).mono fun n h => ?_
  rw [QfC]
  refine stF (decF h0) (stT (decT h1) (stC (QeH (by omega)) ?_))
  rw [QdJ, QdO l (2, [112, 97, 114, 116, 121]), hb]
  simpa [Qap, QaH] using h
 ·have hb : Qcu grp = false := by simp [Qcu]; omega
  refine (Qko lb bn ps i l grp hps (by omega) (by omega) (by omega)).mono fun n h => ?_
  rw [QfC]
  refine stF (decF h0) (stF (decF h1) ?_)
  rw [hb]
  simpa [Qap] using h
theorem Qo7 (bn : Bool) (ps : List Pe) (grp : Int) (hps : ps.length ≤ 100000) (hok : ∀ p ∈ ps, PeSm p) : Ret lb Qat [.list bn (ps.map peE), .int .i64 grp] (QaG (Qax ps grp)) := by
 have hlen : ∀ l : List Pe, (idxF perF 0 l).length ≤ 2 * l.length := fun l => Qde Qmc l 0
 refine .top rfl ((Evt.diag (QdT (enc := peE) (l := ps) (P := fun p t n k => Qdl lb n k bn (ps.map peE) grp (idxF perF 0 p).isEmpty ((idxF perF 0 p).map fauE) (p.length : Int) = some (QaG (Qax ps grp))) (by omega)
  ((QsB lb bn ps grp (ps.length : Int) (idxF perF 0 ps) (by omega) (by have := hlen ps; omega)).mono fun n h k => by
    rw [QgP]
    exact stF (decF (by simp)) h)
  (fun p x t h h1 h2 h3 ih => by
   have hpl : p.length + (t.length + 1) = ps.length := by rw [← h]; simp
   have hx : PeSm x := hok x (by rw [← h]; simp)
   have hil := Qd2 (z := (p.length : Int)) (by omega) (by omega)
   have hF := hlen p
   refine Evt.imp2 (Evt.imp2 (QoR lb x hx) (Evt.imp2 (Qpc lb x hx) (Qfw lb (p.length : Int) (by omega) (by omega)) fun n a b => And.intro a b) fun n a b => And.intro a b) ih fun n ⟨c1, c2, c3⟩ hi k hk => ?_
   have hi := hi k hk
   rw [QgP]
   refine stT (decT h1) (stO _ c3 (stO _ rfl (stC (decT (by simp; omega)) (stO _ h2 (stC rfl (stO _ rfl (stO _ rfl (stO _ rfl (stO _ c1 (stO _ (QaL _) ?_))))))))))
   rw [QdY, Nat.zero_add] at hi
   rw [show perF p.length x = Qap (!QdD x) 5 (QbD ++ Lib.itoa (p.length : Int)) ++ Qap (!QeK x) 8 (QbD ++ Lib.itoa (p.length : Int)) from rfl] at hi
   rw [← List.append_assoc] at hi
   refine (acc (!QdD x) (idxF perF 0 p) 5 (QbD ++ Lib.itoa (p.length : Int)) (by omega) (fun b l => QfE lb n k bn (ps.map peE) grp (p.length : Int) (Lib.itoa (p.length : Int)) (.str (Lib.itoa (p.length : Int))) b l)).trans ?_
   rw [Qmt, h3]
   refine stO _ h2 (stC rfl (stO _ rfl (stO _ rfl (stO _ rfl (stO _ c2 (stO _ (QaL _) ?_))))))
   exact (acc (!QeK x) (idxF perF 0 p ++ Qap (!QdD x) 5 (QbD ++ Lib.itoa (p.length : Int))) 8 (QbD ++ Lib.itoa (p.length : Int)) (by have := QaR (!QdD x) 5 (QbD ++ Lib.itoa (p.length : Int)); rw [List.length_append]; omega) (fun b l => Qdl lb n k bn (ps.map peE) grp b l ((p ++ [x]).length : Int))).trans hi) ps [] rfl)).mono fun n h => by rw [Qpp]; exact h)
theorem QsU (n wW : Nat) (aloc1 : List UInt8) (ja : Bool) (aper3 : List (List CV)) (je : Int) (jb : Bool) (aseg6 : List (List CV)) (jd : Bool) (aser9 : List (List CV)) (jc : Int) (jl : CV) (wk jL : Int) (s208 : List UInt8) (jk : Bool) (l17 : List (List CV)) (jg : CV) (jj : Bool × List (List CV)) (jn : CV) (c203 : List CV) (yD yr wH yK : CV) (x : Sv) (h7 : yr = .int .i64 x.pe) (h8 : wH = .int .i64 x.sg) (G : List Fau) (hG : G.length ≤ 999999) :
  QdA lb n wW aloc1 ja aper3 je jb aseg6 jd aser9 jc jl wk jL s208 jk l17 jg jj jn c203 yD yr wH yK G.isEmpty (G.map fauE) = Qbw lb n wW aloc1 ja aper3 je jb aseg6 jd aser9 jc jl wk jk l17 jg jj jn (G ++ Qap (Qgs aper3.length aseg6.length x) 7 (Qbh ++ s208)).isEmpty ((G ++ Qap (Qgs aper3.length aseg6.length x) 7 (Qbh ++ s208)).map fauE) (IntKind.wrap .i64 (jL + 1)) := by
 subst h7; subst h8
 have hT := accT G 7 (Qbh ++ s208) hG (fun b l => Qbw lb n wW aloc1 ja aper3 je jb aseg6 jd aser9 jc jl wk jk l17 jg jj jn b l (IntKind.wrap .i64 (jL + 1)))
 have hF := accF G 7 (Qbh ++ s208) (fun b l => Qbw lb n wW aloc1 ja aper3 je jb aseg6 jd aser9 jc jl wk jk l17 jg jj jn b l (IntKind.wrap .i64 (jL + 1)))
 rw [Ql9]
 unfold Qgs
 refine stO _ (Qa2 ..) ?_
 cases decide (x.pe < 0) with
 | true => exact stT rfl hT
 | false =>
  refine stF rfl (stO _ (Qa2 ..) ?_)
  cases decide (x.pe ≥ (aper3.length : Int)) with
  | true => exact stT rfl hT
  | false =>
   refine stF rfl (stO _ (Qa2 ..) ?_)
   cases decide (x.sg < 0) with
   | true => exact stT rfl hT
   | false =>
    refine stF rfl (stO _ (Qa2 ..) ?_)
    cases decide (x.sg ≥ (aseg6.length : Int)) with
    | true => exact stT rfl hT
    | false => exact stF rfl hF
theorem QtT (n : Nat) (aloc1 : List UInt8) (ja : Bool) (aper3 : List (List CV)) (je : Int) (jb : Bool) (aseg6 : List (List CV)) (jd : Bool) (aser9 : List (List CV)) (jc : Int) (jl : CV) (jk : Bool) (l17 : List (List CV)) (jg : CV) (jj : Bool × List (List CV)) (jn : CV) (wk : Int) (svs : List Sv) (h9 : aser9 = svs.map svE) (hl : svs.length ≤ 100000) (hok : ∀ x ∈ svs, x.cd.length ≤ 281474976710656) (F : List Fau) (hF : F.length ≤ 500000) :
  Evt fun n => Qhw lb n aloc1 ja aper3 je jb aseg6 jd aser9 jc jl jk l17 jg jj jn F.isEmpty (F.map fauE) wk = some (QaG (F ++ idxF (svF aper3.length aseg6.length) 0 svs)) := by
 subst h9
 have hlen : ∀ l : List Sv, (idxF (svF aper3.length aseg6.length) 0 l).length ≤ 2 * l.length := fun l => Qde (QnM _ _) l 0
 refine (Evt.diag (QdT (enc := svE) (l := svs) (P := fun p t n k => Qbw lb n k aloc1 ja aper3 je jb aseg6 jd (svs.map svE) jc jl wk jk l17 jg jj jn (F ++ idxF (svF aper3.length aseg6.length) 0 p).isEmpty ((F ++ idxF (svF aper3.length aseg6.length) 0 p).map fauE) (p.length : Int) = some (QaG (F ++ idxF (svF aper3.length aseg6.length) 0 svs))) (by omega)
  (.all fun n k => by
   rw [QgS]
   refine stF (decF (by simp)) ?_
   rw [Qma]
   rfl)
  (fun p x t h h1 h2 h3 ih => by
   have hpl : p.length + (t.length + 1) = svs.length := by rw [← h]; simp
   have hx := hok x (by rw [← h]; simp)
   have hil := Qd2 (z := (p.length : Int)) (by omega) (by omega)
   have hP := hlen p
   refine Evt.imp2 (Evt.imp2 (Qfl lb x.cd 4 4 hx) (Qfw lb (p.length : Int) (by omega) (by omega)) fun n a b => And.intro a b) ih fun n ⟨c1, c2⟩ hi k hk => ?_
   have hi := hi k hk
   rw [QgS]
   refine stT (decT h1) (stO _ h2 (stC rfl (stO _ rfl (stO _ rfl (stO _ rfl (stO _ c2 (stO _ rfl (stC (decT (by simp; omega)) (stO _ c1 (stO _ (QaL _) ?_))))))))))
   refine (acc (!Qby x.cd 4 4) (F ++ idxF (svF aper3.length aseg6.length) 0 p) 5 (Qbh ++ Lib.itoa (p.length : Int)) (by simp; omega) (fun b l => QdA lb n k aloc1 ja aper3 je jb aseg6 jd (svs.map svE) jc jl wk (p.length : Int) (Lib.itoa (p.length : Int)) jk l17 jg jj jn (svE x) (.str x.cd) (.int .i64 x.pe) (.int .i64 x.sg) (.str (Lib.itoa (p.length : Int))) b l)).trans ?_
   refine (QsU (x := x) (h7 := rfl) (h8 := rfl) (hG := by
    have := QaR (!Qby x.cd 4 4) 5 (Qbh ++ Lib.itoa (p.length : Int))
    rw [List.length_append, List.length_append]; omega) ..).trans ?_
   rw [h3]
   rw [QdY, Nat.zero_add] at hi
   rw [show svF aper3.length aseg6.length p.length x = Qap (!Qby x.cd 4 4) 5 (Qbh ++ Lib.itoa (p.length : Int)) ++ Qap (Qgs aper3.length aseg6.length x) 7 (Qbh ++ Lib.itoa (p.length : Int)) from rfl] at hi
   simp only [List.append_assoc] at hi ⊢
   exact hi) svs [] rfl)).mono fun n h => by
   rw [Qnq]
   have e : F ++ idxF (svF aper3.length aseg6.length) 0 ([] : List Sv) = F := List.append_nil F
   rw [e] at h
   exact h
theorem Qra (n w6 : Nat) (aloc1 : List UInt8) (ja : Bool) (aper3 : List (List CV)) (je : Int) (jb : Bool) (aseg6 : List (List CV)) (jd : Bool) (aser9 : List (List CV)) (jc : Int) (jl : CV) (wS : Int) (wU : CV) (jk : Bool) (l17 : List (List CV)) (jg : CV) (jj : Bool × List (List CV)) (jn : CV) (c99 : List CV) (jq jt wA jr js ju jB jC jA yk : CV) (m : Nat) (h63 : wS = (m : Int)) (hm : m ≤ 1000000) (er : List Int) (hr : wU = errV er) (her : er.length ≤ 10) (F : List Fau) (hF : F.length ≤ 900000) (hdec : C lb n Qc0 [.int .i64 wS] = some (.str (Lib.itoa (m : Int)))) : ∀ (t p : List Int), p ++ t = er → ∀ k, t.length < k →
  Qd1 lb n k w6 aloc1 ja aper3 je jb aseg6 jd aser9 jc jl wS wU jk l17 jg jj jn c99 jq jt wA jr js ju jB jC jA yk (F ++ p.map fun e => (e, segS ++ Lib.itoa (m : Int))).isEmpty ((F ++ p.map fun e => (e, segS ++ Lib.itoa (m : Int))).map fauE) (p.length : Int) = Qeb lb n w6 aloc1 ja aper3 je jb aseg6 jd aser9 jc jl jk l17 jg jj jn (F ++ er.map fun e => (e, segS ++ Lib.itoa (m : Int))).isEmpty ((F ++ er.map fun e => (e, segS ++ Lib.itoa (m : Int))).map fauE) (IntKind.wrap .i64 (wS + 1))
 | [], p, h, k, hk => by
  obtain ⟨k, rfl⟩ : ∃ j, k = j + 1 := ⟨k - 1, by simp at hk; omega⟩
  have hpe : p = er := by simpa using h
  subst hpe; subst hr
  rw [QgX]
  refine stO _ rfl (stF (decF (by simp)) ?_)
  rw [Qnp]
 | e :: t, p, h, k, hk => by
  obtain ⟨k, rfl⟩ : ∃ j, k = j + 1 := ⟨k - 1, by simp at hk; omega⟩
  have hpl : p.length + (t.length + 1) = er.length := by rw [← h]; simp
  have hil := Qd2 (z := (m : Int)) (by omega) (by omega)
  have hw : IntKind.wrap .i64 ((p.length : Int) + 1) = ((p ++ [e]).length : Int) := by rw [QaK (by omega) (by omega)]; simp
  have hat : atL (er.map icv) (p.length : Int) = some (icv e) := Qdk (by rw [List.getElem?_map, ← h]; simp)
  have ih := Qra n w6 aloc1 ja aper3 je jb aseg6 jd aser9 jc jl wS wU jk l17 jg jj jn c99 jq jt wA jr js ju jB jC jA yk m h63 hm er hr her F hF hdec t (p ++ [e]) (by rw [← h]; simp) k (by simp at hk; omega)
  have hFl : (F ++ p.map fun e => (e, segS ++ Lib.itoa (m : Int))).length ≤ 999999 := by rw [List.length_append, List.length_map]; omega
  subst hr
  rw [QgX]
  refine stO _ rfl (stT (decT (by simp; omega)) (stO _ rfl (stO _ hat (stC rfl (stO _ rfl (stO _ hdec (stO _ rfl (stC (decT (by simp; omega)) (stC rfl ?_)))))))))
  refine (accT (F ++ p.map fun e => (e, segS ++ Lib.itoa (m : Int))) e (segS ++ Lib.itoa (m : Int)) hFl (fun b l => Qd1 lb n k w6 aloc1 ja aper3 je jb aseg6 jd aser9 jc jl wS (errV er) jk l17 jg jj jn c99 jq jt wA jr js ju jB jC jA yk b l (IntKind.wrap .i64 ((p.length : Int) + 1)))).trans ?_
  rw [hw]
  rw [List.map_append, ← List.append_assoc] at ih
  exact ih
theorem Quc (n : Nat) (aloc1 : List UInt8) (ja : Bool) (aper3 : List (List CV)) (je : Int) (jb : Bool) (aseg6 : List (List CV)) (jd : Bool) (aser9 : List (List CV)) (jc : Int) (jl : CV) (jk : Bool) (l17 : List (List CV)) (jg : CV) (jj : Bool × List (List CV)) (jn : CV) (segs : List Sg) (h6 : aseg6 = segs.map sgE) (hs : segs.length ≤ 1000) (hsok : ∀ s ∈ segs, (s.car.length ≤ 281474976710656 ∧ s.fr.length ≤ 281474976710656 ∧ s.to.length ≤ 281474976710656) ∧ s.cls.length ≤ 281474976710656) (svs : List Sv) (h9 : aser9 = svs.map svE) (hl : svs.length ≤ 100000) (hok : ∀ x ∈ svs, x.cd.length ≤ 281474976710656) (F : List Fau) (hF : F.length ≤ 400000) :
  Evt fun n => Qd3 lb n aloc1 ja aper3 je jb aseg6 jd aser9 jc jl jk l17 jg jj jn F.isEmpty (F.map fauE) = some (QaG ((F ++ idxF segF 0 segs) ++ idxF (svF aper3.length aseg6.length) 0 svs)) := by
 have hlen : ∀ l : List Sg, (idxF segF 0 l).length ≤ 4 * l.length := fun l => Qde QlU l 0
 have h8 := QtT lb 0 aloc1 ja aper3 je jb aseg6 jd aser9 jc jl jk l17 jg jj jn (segs.length : Int) svs h9 hl hok (F ++ idxF segF 0 segs) (by have := hlen segs; rw [List.length_append]; omega)
 subst h6
 refine (Evt.diag (QdT (enc := sgE) (l := segs) (P := fun p t n k => Qeb lb n k aloc1 ja aper3 je jb (segs.map sgE) jd aser9 jc jl jk l17 jg jj jn (F ++ idxF segF 0 p).isEmpty ((F ++ idxF segF 0 p).map fauE) (p.length : Int) = some (QaG ((F ++ idxF segF 0 segs) ++ idxF (svF aper3.length (segs.map sgE).length) 0 svs))) (by omega)
  (h8.mono fun n h k => by
   rw [Qg1]
   exact stF (decF (by simp)) h)
  (fun p x t h h1 h2 h3 ih => by
   have hpl : p.length + (t.length + 1) = segs.length := by rw [← h]; simp
   have hx := hsok x (by rw [← h]; simp)
   have hP := hlen p
   refine Evt.imp2 (Evt.imp2 (Qtr lb x hx.2 hx.1.1 hx.1.2.1 hx.1.2.2) (Evt.imp2 (Qfw lb (p.length : Int) (by omega) (by omega)) (Evt.ge 6) fun n a b => And.intro a b) fun n a b => And.intro a b) ih fun n ⟨c1, c2, c3⟩ hi k hk => ?_
   have hi := hi k hk
   rw [Qg1]
   refine stT (decT h1) (stO _ h2 (stC rfl (stO _ rfl (stO _ rfl (stO _ rfl (stO _ rfl (stO _ rfl (stO _ rfl (stO _ rfl (stO _ rfl (stO _ rfl (stO _ rfl (stO _ c1 ?_)))))))))))))
   have hL := Qra (lb := lb) (n := n) (w6 := k) (m := p.length) (wS := (p.length : Int)) (h63 := rfl) (hm := by omega) (er := Qcn x) (wU := errV (Qcn x)) (hr := rfl) (her := by have := Qfi x; omega) (F := F ++ idxF segF 0 p) (hF := by rw [List.length_append]; omega) (hdec := c2) (aloc1 := aloc1) (ja := ja) (aper3 := aper3) (je := je) (jb := jb) (aseg6 := segs.map sgE) (jd := jd) (aser9 := aser9) (jc := jc) (jl := jl) (jk := jk) (l17 := l17) (jg := jg) (jj := jj) (jn := jn) (c99 := sgE x) (jq := .str x.car) (jt := .int .i64 x.num) (wA := .int .i64 x.day) (jr := .str x.fr) (js := .str x.to) (ju := .int .i64 x.dep) (jB := .int .i64 x.arr) (jC := .str x.cls) (jA := .int .i64 x.st) (yk := .int .i64 x.mar) (Qcn x) [] rfl n (by have := Qfi x; omega)
   rw [List.map_nil, List.append_nil, h3] at hL
   refine Eq.trans hL ?_
   rw [QdY, Nat.zero_add] at hi
   rw [show segF p.length x = (Qcn x).map (fun e => (e, segS ++ Lib.itoa (p.length : Int))) from rfl] at hi
   rw [List.append_assoc]
   exact hi) segs [] rfl)).mono fun n h => by
   rw [QmV]
   have e : F ++ idxF segF 0 ([] : List Sg) = F := List.append_nil F
   rw [e] at h
   exact h
theorem QqL (s : Bs) (hs : s.length ≤ 281474976710656) : Ret lb QgM [.str s] (.bool (Qby s 6 6)) :=
 .top rfl ((Qfl lb s 6 6 hs).mono fun n h => by
  rw [QnZ]
  exact stO _ h rfl)
def Qk7 (b : Bk) : List Fau := Qk4 b.loc b.ps b.grp b.segs b.svs b.lim
theorem Qo6 (b : Bk) (hloc : b.loc.length ≤ 281474976710656) (hps : b.ps.length ≤ 1000) (hpok : ∀ p ∈ b.ps, PeSm p) (hs : b.segs.length ≤ 1000) (hsok : ∀ s ∈ b.segs, (s.car.length ≤ 281474976710656 ∧ s.fr.length ≤ 281474976710656 ∧ s.to.length ≤ 281474976710656) ∧ s.cls.length ≤ 281474976710656) (hl : b.svs.length ≤ 100000) (hok : ∀ x ∈ b.svs, x.cd.length ≤ 281474976710656) :
  Ret lb Qad [.agg (bkE b)] (QaG (Qk7 b)) := by
 have hmm : (mars b.segs).length ≤ 1000 := by simpa [mars] using hs
 have hpl := QnP b.ps b.grp
 have h3 : ∀ F : List Fau, F.length ≤ 300000 → ∀ jk l17 jg jj, Evt fun n => QcQ lb n b.loc b.pn (b.ps.map peE) b.grp b.bn (b.segs.map sgE) b.rn (b.svs.map svE) b.lim jk l17 jg jj F.isEmpty (F.map fauE) = some (QaG (((F ++ Qap (marE (mars b.segs) != 0) (marE (mars b.segs)) Qbr) ++ idxF segF 0 b.segs) ++ idxF (svF b.ps.length b.segs.length) 0 b.svs)) := fun F hF jk l17 jg jj => by
  have h4 := Quc lb 0 b.loc b.pn (b.ps.map peE) b.grp b.bn (b.segs.map sgE) b.rn (b.svs.map svE) b.lim (.int .i64 (marE (mars b.segs))) jk l17 jg jj (.list b.segs.isEmpty ((mars b.segs).map icv)) b.segs rfl hs hsok b.svs rfl hl hok (F ++ Qap (marE (mars b.segs) != 0) (marE (mars b.segs)) Qbr) (by
   have := QaR (marE (mars b.segs) != 0) (marE (mars b.segs)) Qbr
   rw [List.length_append]; omega)
  rw [List.length_map, List.length_map] at h4
  refine Evt.imp2 (Evt.imp2 (Qmq lb b (by omega)) (Qpb lb b.segs.isEmpty (mars b.segs) (by omega)) fun n x y => And.intro x y) h4 fun n ⟨c1, c2⟩ h => ?_
  rw [QmW]
  refine stO _ c1 (stO _ c2 (stO _ (Qa2 ..) ?_))
  exact (acc (marE (mars b.segs) != 0) F (marE (mars b.segs)) Qbr (by omega) (fun q l => Qd3 lb n b.loc b.pn (b.ps.map peE) b.grp b.bn (b.segs.map sgE) b.rn (b.svs.map svE) b.lim (.int .i64 (marE (mars b.segs))) jk l17 jg jj (.list b.segs.isEmpty ((mars b.segs).map icv)) q l)).trans h
 have h2 : ∀ F : List Fau, F.length ≤ 10 → Evt fun n => QcR lb n b.loc b.pn (b.ps.map peE) b.grp b.bn (b.segs.map sgE) b.rn (b.svs.map svE) b.lim F.isEmpty (F.map fauE) = some (QaG (((((F ++ Qax b.ps b.grp) ++ Qap (decide ((b.segs.length : Int) > 24)) 4 Qbr) ++ Qap (marE (mars b.segs) != 0) (marE (mars b.segs)) Qbr) ++ idxF segF 0 b.segs) ++ idxF (svF b.ps.length b.segs.length) 0 b.svs)) := fun F hF => by
  have h4 := h3 ((F ++ Qax b.ps b.grp) ++ Qap (decide ((b.segs.length : Int) > 24)) 4 Qbr) (by
   have := QaR (decide ((b.segs.length : Int) > 24)) 4 Qbr
   simp only [List.length_append]; omega) F.isEmpty (F.map fauE) (QaG (Qax b.ps b.grp)) ((Qax b.ps b.grp).isEmpty, (Qax b.ps b.grp).map fauE)
  refine Evt.imp2 (Qo7 lb b.pn b.ps b.grp (by omega) hpok) h4 fun n c1 h => ?_
  rw [QmA]
  refine stO _ c1 (stO _ rfl (stC (by simp [fauE]) (stC (Qev (by simp; omega)) ?_)))
  have e0 : ∀ a b : List Fau, (a.isEmpty && (b.map fauE).isEmpty) = (a ++ b).isEmpty := fun a b => by cases a <;> cases b <;> rfl
  have e1 := e0 F (Qax b.ps b.grp)
  have e2 : F.map fauE ++ (Qax b.ps b.grp).map fauE = (F ++ Qax b.ps b.grp).map fauE := by simp
  show (bif decide ((((b.segs.map sgE).length : Nat) : Int) > 24) then chkO (room ((F.map fauE ++ (Qax b.ps b.grp).map fauE).length + 1) 24) (QcQ lb n b.loc b.pn (b.ps.map peE) b.grp b.bn (b.segs.map sgE) b.rn (b.svs.map svE) b.lim F.isEmpty (F.map fauE) (QaG (Qax b.ps b.grp)) ((Qax b.ps b.grp).isEmpty, (Qax b.ps b.grp).map fauE) ((F.isEmpty && ((Qax b.ps b.grp).map fauE).isEmpty) && false) ((F.map fauE ++ (Qax b.ps b.grp).map fauE) ++ [[CV.int .i64 4, CV.str Qbr]])) else QcQ lb n b.loc b.pn (b.ps.map peE) b.grp b.bn (b.segs.map sgE) b.rn (b.svs.map svE) b.lim F.isEmpty (F.map fauE) (QaG (Qax b.ps b.grp)) ((Qax b.ps b.grp).isEmpty, (Qax b.ps b.grp).map fauE) (F.isEmpty && ((Qax b.ps b.grp).map fauE).isEmpty) (F.map fauE ++ (Qax b.ps b.grp).map fauE)) = _
  rw [e1, e2, List.length_map]
  exact (acc (decide ((b.segs.length : Int) > 24)) (F ++ Qax b.ps b.grp) 4 Qbr (by rw [List.length_append]; omega) (fun q l => QcQ lb n b.loc b.pn (b.ps.map peE) b.grp b.bn (b.segs.map sgE) b.rn (b.svs.map svE) b.lim F.isEmpty (F.map fauE) (QaG (Qax b.ps b.grp)) ((Qax b.ps b.grp).isEmpty, (Qax b.ps b.grp).map fauE) q l)).trans h
 have h1 : ∀ F : List Fau, F.length ≤ 9 → Evt fun n => r35_Check_J1 lb n b.loc b.pn (b.ps.map peE) b.grp b.bn (b.segs.map sgE) b.rn (b.svs.map svE) b.lim F.isEmpty (F.map fauE) = some (QaG ((((((F ++ Qap (QeO b.lim) 13 QdF) ++ Qax b.ps b.grp) ++ Qap (decide ((b.segs.length : Int) > 24)) 4 Qbr) ++ Qap (marE (mars b.segs) != 0) (marE (mars b.segs)) Qbr) ++ idxF segF 0 b.segs) ++ idxF (svF b.ps.length b.segs.length) 0 b.svs)) := fun F hF => by
  refine (h2 (F ++ Qap (QeO b.lim) 13 QdF) (by
   have := QaR (QeO b.lim) 13 QdF
   rw [List.length_append]; omega)).mono fun n h => ?_
  have hT := accT F 13 QdF (by omega) (fun q m => QcR lb n b.loc b.pn (b.ps.map peE) b.grp b.bn (b.segs.map sgE) b.rn (b.svs.map svE) b.lim q m)
  have hN := accF F 13 QdF (fun q m => QcR lb n b.loc b.pn (b.ps.map peE) b.grp b.bn (b.segs.map sgE) b.rn (b.svs.map svE) b.lim q m)
  rw [Qnn]
  unfold QeO at h ⊢
  cases h0 : decide (b.lim < 0) with
  | true => rw [h0] at h; exact stT rfl (hT.trans h)
  | false =>
   rw [h0] at h
   refine stF rfl ?_
   cases h9 : decide (b.lim ≥ 52596000) with
   | true => rw [h9] at h; exact stT rfl (hT.trans h)
   | false => rw [h9] at h; exact stF rfl (hN.trans h)
 refine .top rfl (Evt.imp2 (QqL lb b.loc hloc) (h1 (Qap (!Qby b.loc 6 6) 5 Qgd) (by have := QaR (!Qby b.loc 6 6) 5 Qgd; omega)) fun n c h => ?_)
 rw [show top lb n Qad [.agg (bkE b)] = _ from QpV lb n b.loc b.pn (b.ps.map peE) b.grp b.bn (b.segs.map sgE) b.rn (b.svs.map svE) b.lim]
 refine stO _ c (stO _ (QaL _) ?_)
 unfold Qk7 Qk4
 cases hc : Qby b.loc 6 6 with
 | true => rw [hc] at h; exact stF rfl h
 | false => rw [hc] at h; exact stT rfl h
end Go.Proofs
