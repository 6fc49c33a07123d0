/- Chapter 35: the reference's check of a booking gives the same violations. Conditions: as each says. -/
import Derived.Test.YtigmcfhmpcajlaaGreatDoorCq
import Derived.Test.YtigmcfhmpcajlaaGreatDoorBD
import Derived.Test.YtigmcfhmpcajlaaGreatDoorGx
set_option linter.unusedSimpArgs false
set_option linter.unusedVariables false
namespace Go.Proofs
open Go.Am
variable (lb : Nat)
theorem Qsw (bn : Bool) (l : List Int) (hl : l.length ≤ 1000000) (i : Int) (h0 : 0 ≤ i) (h1 : i < (l.length : Int)) : Ret lb Qd5 [.list bn (l.map icv), .int .i64 i] (.bool (Qg3 l i)) := by
 refine .top rfl (.all fun n => ?_)
 have hlen : (((l.map icv).length : Nat) : Int) = (l.length : Int) := by simp
 have w1 : IntKind.wrap .i64 (i - 1) = i - 1 := QaN (by omega) (by omega)
 have w2 : IntKind.wrap .i64 (i + 1) = i + 1 := QaN (by omega) (by omega)
 have ai := QfN h0 h1
 rw [QoS, w1, w2, hlen]
 unfold Qg3
 by_cases hi : i > 0
 ·have am := QfN (l := l) (i := i - 1) (by omega) (by omega)
  refine stT (decT hi) (stO _ am (stC rfl (stO _ rfl (stO _ ai (stC rfl (stO _ rfl (stO _ (Qae ..) (stO _ (Qae ..) ?_))))))))
  rw [decT hi]
  cases he : nthI l (i - 1) == nthI l i with
  | true => exact stT rfl rfl
  | false =>
   refine stF rfl ?_
   by_cases hj : i + 1 < (l.length : Int)
   ·have ap := QfN (l := l) (i := i + 1) (by omega) hj
    rw [decT hj]
    exact stT rfl (stO _ ap (stC rfl (stO _ rfl (stO _ ai (stC rfl (stO _ rfl (stO _ (Qae ..) (stO _ (Qae ..) rfl))))))))
   ·rw [decF hj]
    exact stF rfl rfl
 ·refine stF (decF hi) ?_
  rw [decF hi]
  by_cases hj : i + 1 < (l.length : Int)
  ·have ap := QfN (l := l) (i := i + 1) (by omega) hj
   rw [decT hj]
   exact stT rfl (stO _ ap (stC rfl (stO _ rfl (stO _ ai (stC rfl (stO _ rfl (stO _ (Qae ..) (stO _ (Qae ..) rfl))))))))
  ·rw [decF hj]
   exact stF rfl rfl
theorem Qxr (n yl : Nat) (bn : Bool) (l : List Int) (wk : Int) (hl : l.length ≤ 1000000) (i : Nat) (hi : i < l.length) : ∀ (d j : Nat), (j + d = l.length ∨ (d = 0 ∧ l.length ≤ j ∧ j ≤ 1000002)) → i + 2 ≤ j → ∀ k, d < k →
  QdR lb n k yl bn (l.map icv) wk ((i : Nat) : Int) (j : Int) = if (decide (nthI l (i : Int) > 0) && QgY l (i : Int) j d) = true then some (.int .i64 18) else Qfs lb n yl bn (l.map icv) wk (IntKind.wrap .i64 ((i : Int) + 1))
 | 0, j, h, hj, k, hk => by
  obtain ⟨k, rfl⟩ : ∃ m, k = m + 1 := ⟨k - 1, by omega⟩
  rw [QiT]
  refine stF (decF (by simp; omega)) ?_
  rw [QpH]
  simp [QgY]
 | d + 1, j, h, hj, k, hk => by
  obtain ⟨k, rfl⟩ : ∃ m, k = m + 1 := ⟨k - 1, by omega⟩
  have hw : IntKind.wrap .i64 ((j : Int) + 1) = ((j + 1 : Nat) : Int) := by rw [QaN (by omega) (by omega)]; omega
  have hw1 : IntKind.wrap .i64 ((j : Int) - 1) = (j : Int) - 1 := QaN (by omega) (by omega)
  have ih := Qxr n yl bn l wk hl i hi d (j + 1) (.inl (by omega)) (by omega) k (by omega)
  have ai := QfN (l := l) (i := (i : Int)) (by omega) (by omega)
  have aj := QfN (l := l) (i := (j : Int)) (by omega) (by omega)
  have am := QfN (l := l) (i := (j : Int) - 1) (by omega) (by omega)
  rw [QiT, hw, hw1]
  refine stT (decT (by simp; omega)) (stO _ ai (stC rfl (stO _ rfl (stO _ (Qae ..) ?_))))
  cases hp : decide (nthI l (i : Int) > 0) with
  | false =>
   rw [hp] at ih
   refine stF rfl (ih.trans ?_)
   simp
  | true =>
   rw [hp] at ih
   refine stT rfl (stO _ aj (stC rfl (stO _ rfl (stO _ ai (stC rfl (stO _ rfl (stO _ (Qae ..) (stO _ (Qae ..) ?_))))))))
   unfold QgY
   cases he : nthI l (j : Int) == nthI l (i : Int) with
   | false => exact stF rfl (ih.trans (by simp))
   | true =>
    refine stT rfl (stO _ am (stC rfl (stO _ rfl (stO _ ai (stC rfl (stO _ rfl (stO _ (Qae ..) (stO _ (Qae ..) ?_))))))))
    cases hq : nthI l ((j : Int) - 1) != nthI l (i : Int) with
    | true => exact stT rfl (by simp)
    | false => exact stF rfl (ih.trans (by simp))
theorem QwN (n : Nat) (bn : Bool) (l : List Int) (wk : Int) (hl : l.length ≤ 1000000) (hn : l.length < n) (hN : ∀ i ∈ upTo l.length, C lb n Qd5 [.list bn (l.map icv), .int .i64 i] = some (.bool (Qg3 l i))) : ∀ (d i : Nat), i + d = l.length → ∀ k, d < k →
  Qfs lb n k bn (l.map icv) wk (i : Int) = some (.int .i64 (if badR l i d then 18 else 0))
 | 0, i, h, k, hk => by
  obtain ⟨k, rfl⟩ : ∃ m, k = m + 1 := ⟨k - 1, by omega⟩
  rw [QiL]
  refine stF (decF (by simp; omega)) ?_
  rw [QpK]; rfl
 | d + 1, i, h, k, hk => by
  obtain ⟨k, rfl⟩ : ∃ m, k = m + 1 := ⟨k - 1, by omega⟩
  have hw : IntKind.wrap .i64 ((i : Int) + 1) = ((i + 1 : Nat) : Int) := by rw [QaN (by omega) (by omega)]; omega
  have hw2 : IntKind.wrap .i64 ((i : Int) + 2) = ((i + 2 : Nat) : Int) := by rw [QaN (by omega) (by omega)]; omega
  have ih := QwN n bn l wk hl hn hN d (i + 1) (by omega) k (by omega)
  have ai := QfN (l := l) (i := (i : Int)) (by omega) (by omega)
  have h4 := Qxr lb n k bn l wk hl i (by omega) (l.length - (i + 2)) (i + 2) (by omega) (by omega) n (by omega)
  rw [hw, ih] at h4
  rw [QiL, hw2]
  refine stT (decT (by simp; omega)) (stO _ ai (stC rfl (stO _ rfl (stO _ (Qae ..) ?_))))
  unfold badR
  cases hp : decide (nthI l (i : Int) > 0) with
  | false =>
   rw [hp] at h4
   exact stF rfl (h4.trans (by simp))
  | true =>
   rw [hp] at h4
   refine stT rfl (stO _ (hN (i : Int) (Qfm.2 ⟨by omega, by omega⟩)) (stO _ (QaU _) ?_))
   cases hb : Qg3 l (i : Int) with
   | false => exact stT rfl (by simp)
   | true =>
    refine stF rfl (h4.trans ?_)
    cases QgY l (i : Int) (i + 2) (l.length - (i + 2)) <;> simp
theorem QsX (bn : Bool) (l : List Int) (hl : l.length ≤ 1000000) : Ret lb Qao [.list bn (l.map icv)] (.int .i64 (marE l)) := by
 rw [← Qz2]
 have hN : Evt fun n => ∀ i ∈ upTo l.length, C lb n Qd5 [.list bn (l.map icv), .int .i64 i] = some (.bool (Qg3 l i)) := Evt.fin (upTo l.length) fun i hi => Qsw lb bn l hl i (Qfm.1 hi).1 (Qfm.1 hi).2
 refine .top rfl ((Evt.diag (QcT (enc := icv) (l := l) (P := fun p t n k => Qhe lb n k bn (l.map icv) (p.length : Int) = some (.int .i64 (if t.any (fun x => decide (x < 0)) then 2 else if badR l 0 l.length then 18 else 0))) (by omega)
  (Evt.imp2 hN (Evt.ge (l.length + 1)) fun n h1 h2 k => by
   rw [QiN]
   refine stF (decF (by simp)) ?_
   rw [Qqz]
   exact QwN lb n bn l _ hl (by omega) h1 l.length 0 (by omega) n (by omega))
  (fun p y t h h1 h2 h3 ih => ih.mono fun n hi k hk => by
   rw [QiN, List.any_cons]
   refine stT (decT h1) (stO _ h2 (stC rfl (stO _ rfl (stO _ (Qae ..) ?_))))
   cases hy : decide (y < 0) with
   | true => exact stT rfl rfl
   | false =>
    refine stF rfl ?_
    rw [h3, hi k hk]
    rfl) l [] rfl)).mono fun n h => by rw [Qut]; exact h)
theorem Qp5 (b : Bk) (hl : b.segs.length ≤ 1000000) : Ret lb Qbv [.agg (bkE b)] (.list b.segs.isEmpty ((mars b.segs).map icv)) :=
 .top rfl ((Evt.diag (QcT (enc := sgE) (l := b.segs) (P := fun p t n k => QfF lb n k b.loc b.pn (b.ps.map peE) b.grp b.bn (b.segs.map sgE) b.rn (b.svs.map svE) b.lim p.isEmpty ((mars p).map icv) (p.length : Int) = some (.list b.segs.isEmpty ((mars b.segs).map icv))) (by omega)
  (.all fun n k => by
   rw [Qhw]
   refine stF (decF (by simp)) ?_
   rw [Qoi])
  (fun p x t h h1 h2 h3 ih => ih.mono fun n hi k hk => by
   have hpl : p.length + (t.length + 1) = b.segs.length := by rw [← h]; simp
   rw [Qhw]
   refine stT (decT h1) (stO _ h2 (stC rfl (stO _ rfl (stC rfl (stC (Qbg (by simp [mars]; omega)) ?_)))))
   rw [h3]
   have := hi k hk
   have e : (p.isEmpty && false) = (p ++ [x]).isEmpty := by simp
   rw [e]
   simpa [mars, icv] using this) b.segs [] rfl)).mono fun n h => by
   rw [show top lb n Qbv [.agg (bkE b)] = _ from QrF lb n b.loc b.pn (b.ps.map peE) b.grp b.bn (b.segs.map sgE) b.rn (b.svs.map svE) b.lim]
   exact h)
theorem Qsv : Ret lb QkK [] (.list false [[CV.str []], [CV.str [72, 75]], [CV.str [72, 76]], [CV.str [75, 76]], [CV.str [84, 75]], [CV.str [85, 78]], [CV.str [85, 67]], [CV.str [88, 88]]]) := .top rfl (.all fun n => Quu lb n)
theorem QmZ (x : Int) : Ret lb Qja [.int .i64 x] (QgK x) :=
 .top rfl ((Qsv lb).mono fun n h => by
  rw [QuX]
  unfold QgK
  by_cases h1 : x ≤ 0
  ·have : stOk x = false := by simp [stOk]; omega
   rw [this]
   exact stT (decT h1) rfl
  ·by_cases h2 : x > 7
   ·have : stOk x = false := by simp [stOk]; omega
    rw [this]
    exact stF (decF h1) (stT (decT h2) rfl)
   ·have h3 : x = 1 ∨ x = 2 ∨ x = 3 ∨ x = 4 ∨ x = 5 ∨ x = 6 ∨ x = 7 := by omega
    refine stF (decF h1) (stF (decF h2) (stO _ h (stO _ rfl ?_)))
    rcases h3 with rfl | rfl | rfl | rfl | rfl | rfl | rfl <;> exact stO _ rfl (stC rfl (stO _ rfl rfl)))
theorem QzJ (s : Sg) (l : List Int) (hl : l.length ≤ 3) : Evt fun n => QfI lb n s.car s.num s.day s.fr s.to s.dep s.arr s.cls s.st s.mar l.isEmpty (l.map icv) = some (errV (l ++ Qbi (stOk s.st) 10)) :=
 (QmZ lb s.st).mono fun n h => by
  rw [Qn9]
  refine stO _ h ?_
  unfold QgK
  cases stOk s.st with
  | true =>
   refine stO _ rfl (stO _ rfl (stO _ rfl (stO _ rfl (stO _ rfl (stF rfl ?_)))))
   show _ = some (errV (l ++ []))
   rw [List.append_nil]; rfl
  | false =>
   refine stO _ rfl (stO _ rfl (stO _ rfl (stO _ rfl (stO _ rfl (stT rfl (stC (Qh0 (by omega)) ?_))))))
   rw [Qji, Qjj l 10]; rfl
theorem Qzn (s : Sg) (hc : s.cls.length ≤ 281474976710656) (l : List Int) (hl : l.length ≤ 2) : Evt fun n => QdE lb n s.car s.num s.day s.fr s.to s.dep s.arr s.cls s.st s.mar l.isEmpty (l.map icv) = some (errV ((l ++ Qbi (Qdq s.cls) 16) ++ Qbi (stOk s.st) 10)) := by
 refine Evt.imp2 (QsF lb s.cls hc) (QzJ lb s (l ++ Qbi (Qdq s.cls) 16) (by unfold Qbi; cases Qdq s.cls <;> simp <;> omega)) fun n h h3 => ?_
 rw [Qn4]
 refine stO _ h (stO _ (QaU _) ?_)
 cases hc : Qdq s.cls with
 | true =>
  rw [hc] at h3
  refine stF rfl ?_
  have e : l ++ Qbi true 16 = l := List.append_nil l
  rw [e] at h3 ⊢
  exact h3
 | false =>
  rw [hc] at h3
  refine stT rfl (stC (Qh0 (by omega)) ?_)
  rw [Qji, Qjj l 16]
  exact h3
theorem Qzy (s : Sg) (hc : s.cls.length ≤ 281474976710656) (l : List Int) (hl : l.length ≤ 1) : Evt fun n => QdG lb n s.car s.num s.day s.fr s.to s.dep s.arr s.cls s.st s.mar l.isEmpty (l.map icv) = some (errV (((l ++ Qbi (Qd3 s) 13) ++ Qbi (Qdq s.cls) 16) ++ Qbi (stOk s.st) 10)) := by
 refine (Qzn lb s hc (l ++ Qbi (Qd3 s) 13) (by unfold Qbi; cases Qd3 s <;> simp <;> omega)).mono fun n h => ?_
 rw [Qn5]
 cases ht : Qd3 s with
 | true =>
  rw [ht] at h
  have e : l ++ Qbi true 13 = l := List.append_nil l
  rw [e] at h ⊢
  simp only [Qd3, decide_eq_true_eq] at ht
  exact stF (decF (by omega)) (stF (decF (by omega)) (stF (decF (by omega)) h))
 | false =>
  rw [ht] at h
  simp only [Qd3, decide_eq_false_iff_not] at ht
  rw [Qji, Qjj l 13]
  by_cases h1 : s.dep < 0
  ·exact stT (decT h1) (stC (Qh0 (by omega)) h)
  ·by_cases h2 : s.dep ≥ s.arr
   ·exact stF (decF h1) (stT (decT (by omega)) (stC (Qh0 (by omega)) h))
   ·exact stF (decF h1) (stF (decF (by omega)) (stT (decT (by omega)) (stC (Qh0 (by omega)) h)))
theorem Qym (s : Sg) (hc : s.cls.length ≤ 281474976710656) (h1 : s.car.length ≤ 281474976710656) (h2 : s.fr.length ≤ 281474976710656) (h3 : s.to.length ≤ 281474976710656) : Ret lb Qbt [.agg (sgE s)] (errV (QcJ s)) := by
 refine .top rfl (Evt.imp2 (Evt.imp2 (QpE lb s.car h1) (Evt.imp2 (Qke lb s.fr h2) (Qke lb s.to h3) fun n a b => (⟨a, b⟩ : _ ∧ _)) fun n a b => (⟨a, b⟩ : _ ∧ _)) (Qzy lb s hc (Qbi (QcY s) 5) (by unfold Qbi; cases QcY s <;> simp)) fun n ⟨c1, c2, c3⟩ h => ?_)
 rw [show top lb n Qbt [.agg (sgE s)] = _ from Qrk lb n s.car s.num s.day s.fr s.to s.dep s.arr s.cls s.st s.mar]
 refine stO _ c1 (stO _ (QaU _) ?_)
 unfold QcJ
 cases k1 : QgA s.car with
 | false =>
  have : QcY s = false := by unfold QcY; rw [k1]; rfl
  rw [this] at h ⊢
  exact stT rfl h
 | true =>
  refine stF rfl (stO _ c2 (stO _ (QaU _) ?_))
  cases k2 : Qdl s.fr with
  | false =>
   have : QcY s = false := by unfold QcY; rw [k1, k2]; rfl
   rw [this] at h ⊢
   exact stT rfl h
  | true =>
   refine stF rfl (stO _ c3 (stO _ (QaU _) ?_))
   have : QcY s = Qdl s.to := by unfold QcY; rw [k1, k2]; rfl
   rw [this] at h ⊢
   cases k3 : Qdl s.to with
   | false => rw [k3] at h; exact stT rfl h
   | true => rw [k3] at h; exact stF rfl h
def PeSm (p : Pe) : Prop := p.la.length ≤ 1000000000 ∧ p.fi.length ≤ 1000000000 ∧ p.ty.length ≤ 281474976710656
theorem Ql3 (p : Pe) (h : PeSm p) : Ret lb Qf6 [.agg (peE p)] (.bool (QbP p)) :=
 .top rfl (Evt.imp2 (QmK lb p.la h.1) (QmK lb p.fi h.2.1) fun n h1 h2 => by
  rw [show top lb n Qf6 [.agg (peE p)] = _ from QtQ lb n p.la p.fi p.ty]
  refine stO _ h1 (stO _ (QaU _) ?_)
  unfold QbP
  cases Qgm p.la with
  | true => exact stT rfl (stO _ h2 rfl)
  | false => exact stF rfl rfl)
theorem Qmf (p : Pe) (h : PeSm p) : Ret lb Qf7 [.agg (peE p)] (.bool (Qb9 p)) :=
 .top rfl ((QgW lb p.ty 3 3 h.2.2).mono fun n h1 => by
  rw [show top lb n Qf7 [.agg (peE p)] = _ from QtJ lb n p.la p.fi p.ty]
  exact stO _ h1 rfl)
theorem QnX (bn : Bool) (l : List Pe) (hl : l.length ≤ 1000000) : ∀ (t u : List Pe) (i a : Int), u ++ t = l → 0 ≤ i → i ≤ (u.length : Int) → 0 ≤ a → a ≤ (u.length : Int) → ∀ n k, t.length < k → QeZ lb n k bn (l.map peE) i a (u.length : Int) = some (.bool (!decide (Qct (i - a) t > 0)))
 | [], u, i, a, h, _, _, _, _, n, k, hk => by
  obtain ⟨k, rfl⟩ : ∃ j, k = j + 1 := ⟨k - 1, by simp at hk; omega⟩
  have hu : u = l := by simpa using h
  rw [Qjo, hu]
  refine stF (decF (by simp)) ?_
  rw [Qrr]
  have : decide (i ≤ a) = !decide (i - a > 0) := by by_cases h : i ≤ a <;> simp [h] <;> omega
  rw [this]; rfl
 | p :: t, u, i, a, h, i0, i1, a0, a1, n, k, hk => by
  obtain ⟨k, rfl⟩ : ∃ j, k = j + 1 := ⟨k - 1, by simp at hk; omega⟩
  have hul : u.length + (t.length + 1) = l.length := by rw [← h]; simp
  have hw : IntKind.wrap .i64 ((u.length : Int) + 1) = ((u ++ [p]).length : Int) := by rw [QaN (by omega) (by omega)]; simp
  have hat : atL (l.map peE) (u.length : Int) = some (peE p) := Qcv (by rw [List.getElem?_map, ← h]; simp)
  have wi : IntKind.wrap .i64 (i + 1) = i + 1 := QaN (by omega) (by omega)
  have wa : IntKind.wrap .i64 (a + 1) = a + 1 := QaN (by omega) (by omega)
  have hul2 : ((u ++ [p]).length : Int) = (u.length : Int) + 1 := by simp
  rw [Qjo, hw, wi, wa]
  unfold Qct
  refine stT (decT (by simp; omega)) (stO _ hat (stC rfl (stO _ rfl (stO _ rfl ?_))))
  cases hI : infB p with
  | true =>
   have hA : aduB p = false := by unfold aduB; rw [hI]; rfl
   have ih := QnX bn l hl t (u ++ [p]) (i + 1) a (by rw [← h]; simp) (by omega) (by omega) a0 (by omega) n k (by simp at hk; omega)
   refine stT hI (ih.trans ?_)
   rw [hA]
   simp only [cond_true, cond_false]
   rw [show i + 1 - a = i - a + 1 - 0 by omega]
  | false =>
   refine stF hI (stO _ hat (stC rfl (stO _ rfl (stO _ rfl ?_))))
   cases hA : aduB p with
   | true =>
    have ih := QnX bn l hl t (u ++ [p]) i (a + 1) (by rw [← h]; simp) i0 (by omega) (by omega) (by omega) n k (by simp at hk; omega)
    have hc : (!(p.ty == [67, 72, 68])) = true := by unfold aduB at hA; rw [hI] at hA; simpa using hA
    refine stT hc (ih.trans ?_)
    simp only [cond_true, cond_false]
    rw [show i - (a + 1) = i - a + 0 - 1 by omega]
   | false =>
    have ih := QnX bn l hl t (u ++ [p]) i a (by rw [← h]; simp) i0 (by omega) a0 (by omega) n k (by simp at hk; omega)
    have hc : (!(p.ty == [67, 72, 68])) = false := by unfold aduB at hA; rw [hI] at hA; simpa using hA
    exact stF hc (ih.trans (by simp))
theorem QyC (bn : Bool) (l : List Pe) (hl : l.length ≤ 1000000) : Ret lb Qco [.list bn (l.map peE)] (.bool (!decide (Qct 0 l > 0))) :=
 .top rfl ((Evt.ge (l.length + 1)).mono fun n hn => by
  rw [QuO]
  exact QnX lb bn l hl l [] 0 0 rfl (by omega) (by omega) (by omega) (by omega) n n (by omega))
theorem QmM (bn : Bool) (ps : List Pe) (i : Int) (l : List Fau) (g : Int) (hps : ps.length ≤ 1000000) (hl : l.length ≤ 900000) (g0 : 0 ≤ g) (g1 : g ≤ 99) :
  Evt fun n => Qfd lb n bn (ps.map peE) i g l.isEmpty (l.map fauE) = some (QaY ((l ++ Qat (QaZ ps.length g) 4 Qa1) ++ Qat (decide (Qct 0 ps > 0)) 25 Qa1)) :=
 (QyC lb bn ps hps).mono fun n h => by
  have hlen : (((ps.map peE).length : Nat) : Int) = (ps.length : Int) := by simp
  have hw : IntKind.wrap .i64 ((ps.length : Int) + g) = (ps.length : Int) + g := QaN (by omega) (by omega)
  have five : ∀ F : List Fau, F.length ≤ 999999 → Qci lb n bn (ps.map peE) g i F.isEmpty (F.map fauE) = some (QaY (F ++ Qat (decide (Qct 0 ps > 0)) 25 Qa1)) := fun F hF => by
   rw [Qp6]
   refine stO _ h (stO _ (QaU _) ?_)
   rw [Bool.not_not]
   exact acc (decide (Qct 0 ps > 0)) F 25 Qa1 hF (fun b l => some (.list b l))
  have bad := (accT l 4 Qa1 (by omega) (fun b m => Qci lb n bn (ps.map peE) g i b m)).trans (five (l ++ Qat true 4 Qa1) (by have := Qbn true 4 Qa1; rw [List.length_append]; omega))
  have good := (accF l 4 Qa1 (fun b m => Qci lb n bn (ps.map peE) g i b m)).trans (five (l ++ Qat false 4 Qa1) (by have := Qbn false 4 Qa1; rw [List.length_append]; omega))
  rw [QpD, hlen, hw]
  by_cases h0 : (ps.length : Int) + g = 0
  ·rw [show QaZ ps.length g = true by simp [QaZ, h0]]
   exact stT (beqT h0) bad
  refine stF (beqF h0) ?_
  by_cases hg : g = 0
  ·refine stT (beqT hg) ?_
   by_cases h9 : (ps.length : Int) > 9
   ·rw [show QaZ ps.length g = true by simp [QaZ, hg]; omega]
    exact stT (decT h9) bad
   refine stF (decF h9) ?_
   by_cases h99 : (ps.length : Int) + g > 99
   ·omega
   rw [show QaZ ps.length g = false by simp [QaZ]; omega]
   exact stF (decF h99) good
  ·refine stF (beqF hg) ?_
   by_cases h99 : (ps.length : Int) + g > 99
   ·rw [show QaZ ps.length g = true by simp [QaZ]; omega]
    exact stT (decT h99) bad
   rw [show QaZ ps.length g = false by simp [QaZ]; omega]
   exact stF (decF h99) good
theorem Qxd (bn : Bool) (ps : List Pe) (grp i : Int) (l : List Fau) (hps : ps.length ≤ 1000000) (hl : l.length ≤ 800000) :
  Evt fun n => QjL lb n bn (ps.map peE) grp l.isEmpty (l.map fauE) i = some (QaY (l ++ Qgp ps grp)) := by
 unfold Qgp
 by_cases h0 : grp < 0
 ·have hb : Qdp grp = true := by simp [Qdp, h0]
  refine (QmM lb bn ps i (l ++ [(2, Qa1)]) 0 hps (by simp; omega) (by omega) (by omega)).mono fun n h => ?_
  rw [QgU]
  refine stT (decT h0) (stC (Qf4 (by omega)) ?_)
  rw [QeR, QeX l (2, [112, 97, 114, 116, 121]), hb]
  simpa [Qat, Qa1] using h
 by_cases h1 : grp > 99
 ·have hb : Qdp grp = true := by simp [Qdp, h1]
  refine (QmM lb bn ps i (l ++ [(2, Qa1)]) 0 hps (by simp; omega) (by omega) (by omega)).mono fun n h => ?_
  rw [QgU]
  refine stF (decF h0) (stT (decT h1) (stC (Qf4 (by omega)) ?_))
  rw [QeR, QeX l (2, [112, 97, 114, 116, 121]), hb]
  simpa [Qat, Qa1] using h
 ·have hb : Qdp grp = false := by simp [Qdp]; omega
  refine (QmM lb bn ps i l grp hps (by omega) (by omega) (by omega)).mono fun n h => ?_
  rw [QgU]
  refine stF (decF h0) (stF (decF h1) ?_)
  rw [hb]
  simpa [Qat] using h
theorem QsH (bn : Bool) (ps : List Pe) (grp : Int) (hps : ps.length ≤ 100000) (hok : ∀ p ∈ ps, PeSm p) : Ret lb Qaz [.list bn (ps.map peE), .int .i64 grp] (QaY (QaE ps grp)) := by
 have hlen : ∀ l : List Pe, (idxF perF 0 l).length ≤ 2 * l.length := fun l => Qfl QoY l 0
 refine .top rfl ((Evt.diag (QcT (enc := peE) (l := ps) (P := fun p t n k => Qeq lb n k bn (ps.map peE) grp (idxF perF 0 p).isEmpty ((idxF perF 0 p).map fauE) (p.length : Int) = some (QaY (QaE ps grp))) (by omega)
  ((Qxd lb bn ps grp (ps.length : Int) (idxF perF 0 ps) (by omega) (by have := hlen ps; omega)).mono fun n h k => by
    rw [QiW]
    exact stF (decF (by simp)) h)
  (fun p x t h h1 h2 h3 ih => by
   have hpl : p.length + (t.length + 1) = ps.length := by rw [← h]; simp
   have hx : PeSm x := hok x (by rw [← h]; simp)
   have hil := Qbb (z := (p.length : Int)) (by omega) (by omega)
   have hF := hlen p
   refine Evt.imp2 (Evt.imp2 (Ql3 lb x hx) (Evt.imp2 (Qmf lb x hx) (Qe1 lb (p.length : Int) (by omega) (by omega)) fun n a b => And.intro a b) fun n a b => And.intro a b) ih fun n ⟨c1, c2, c3⟩ hi k hk => ?_
   have hi := hi k hk
   rw [QiW]
   refine stT (decT h1) (stO _ c3 (stO _ rfl (stC (decT (by simp; omega)) (stO _ h2 (stC rfl (stO _ rfl (stO _ rfl (stO _ rfl (stO _ c1 (stO _ (QaU _) ?_))))))))))
   rw [Qfq, Nat.zero_add] at hi
   rw [show perF p.length x = Qat (!QbP x) 5 (Qcg ++ Lib.itoa (p.length : Int)) ++ Qat (!Qb9 x) 8 (Qcg ++ Lib.itoa (p.length : Int)) from rfl] at hi
   rw [← List.append_assoc] at hi
   refine (acc (!QbP x) (idxF perF 0 p) 5 (Qcg ++ Lib.itoa (p.length : Int)) (by omega) (fun b l => Qhh lb n k bn (ps.map peE) grp (p.length : Int) (Lib.itoa (p.length : Int)) (.str (Lib.itoa (p.length : Int))) b l)).trans ?_
   rw [QqJ, h3]
   refine stO _ h2 (stC rfl (stO _ rfl (stO _ rfl (stO _ rfl (stO _ c2 (stO _ (QaU _) ?_))))))
   exact (acc (!Qb9 x) (idxF perF 0 p ++ Qat (!QbP x) 5 (Qcg ++ Lib.itoa (p.length : Int))) 8 (Qcg ++ Lib.itoa (p.length : Int)) (by have := Qbn (!QbP x) 5 (Qcg ++ Lib.itoa (p.length : Int)); rw [List.length_append]; omega) (fun b l => Qeq lb n k bn (ps.map peE) grp b l ((p ++ [x]).length : Int))).trans hi) ps [] rfl)).mono fun n h => by rw [Qte]; exact h)
theorem QxR (n yv : Nat) (jj : List UInt8) (ja : Bool) (jf : List (List CV)) (jg : Int) (jb : Bool) (je : List (List CV)) (jd : Bool) (jh : List (List CV)) (jc : Int) (jq : CV) (wN j8 : Int) (yt : List UInt8) (jp : Bool) (jn : List (List CV)) (jl : CV) (jo : Bool × List (List CV)) (js : CV) (y0 : List CV) (vu y3 ye vQ : CV) (x : Sv) (h7 : y3 = .int .i64 x.pe) (h8 : ye = .int .i64 x.sg) (G : List Fau) (hG : G.length ≤ 999999) :
  QeQ lb n yv jj ja jf jg jb je jd jh jc jq wN j8 yt jp jn jl jo js y0 vu y3 ye vQ G.isEmpty (G.map fauE) = QbZ lb n yv jj ja jf jg jb je jd jh jc jq wN jp jn jl jo js (G ++ Qat (Qic jf.length je.length x) 7 (QbG ++ yt)).isEmpty ((G ++ Qat (Qic jf.length je.length x) 7 (QbG ++ yt)).map fauE) (IntKind.wrap .i64 (j8 + 1)) := by
 subst h7; subst h8
 have hT := accT G 7 (QbG ++ yt) hG (fun b l => QbZ lb n yv jj ja jf jg jb je jd jh jc jq wN jp jn jl jo js b l (IntKind.wrap .i64 (j8 + 1)))
 have hF := accF G 7 (QbG ++ yt) (fun b l => QbZ lb n yv jj ja jf jg jb je jd jh jc jq wN jp jn jl jo js b l (IntKind.wrap .i64 (j8 + 1)))
 rw [Qpc]
 unfold Qic
 refine stO _ (Qae ..) ?_
 cases decide (x.pe < 0) with
 | true => exact stT rfl hT
 | false =>
  refine stF rfl (stO _ (Qae ..) ?_)
  cases decide (x.pe ≥ (jf.length : Int)) with
  | true => exact stT rfl hT
  | false =>
   refine stF rfl (stO _ (Qae ..) ?_)
   cases decide (x.sg < 0) with
   | true => exact stT rfl hT
   | false =>
    refine stF rfl (stO _ (Qae ..) ?_)
    cases decide (x.sg ≥ (je.length : Int)) with
    | true => exact stT rfl hT
    | false => exact stF rfl hF
theorem Qzh (n : Nat) (jj : List UInt8) (ja : Bool) (jf : List (List CV)) (jg : Int) (jb : Bool) (je : List (List CV)) (jd : Bool) (jh : List (List CV)) (jc : Int) (jq : CV) (jp : Bool) (jn : List (List CV)) (jl : CV) (jo : Bool × List (List CV)) (js : CV) (wN : Int) (svs : List Sv) (h9 : jh = svs.map svE) (hl : svs.length ≤ 100000) (hok : ∀ x ∈ svs, x.cd.length ≤ 281474976710656) (F : List Fau) (hF : F.length ≤ 500000) :
  Evt fun n => Qjx lb n jj ja jf jg jb je jd jh jc jq jp jn jl jo js F.isEmpty (F.map fauE) wN = some (QaY (F ++ idxF (svF jf.length je.length) 0 svs)) := by
 subst h9
 have hlen : ∀ l : List Sv, (idxF (svF jf.length je.length) 0 l).length ≤ 2 * l.length := fun l => Qfl (Qvk _ _) l 0
 refine (Evt.diag (QcT (enc := svE) (l := svs) (P := fun p t n k => QbZ lb n k jj ja jf jg jb je jd (svs.map svE) jc jq wN jp jn jl jo js (F ++ idxF (svF jf.length je.length) 0 p).isEmpty ((F ++ idxF (svF jf.length je.length) 0 p).map fauE) (p.length : Int) = some (QaY (F ++ idxF (svF jf.length je.length) 0 svs))) (by omega)
  (.all fun n k => by
   rw [QiP]
   refine stF (decF (by simp)) ?_
   rw [QoQ]
   rfl)
  (fun p x t h h1 h2 h3 ih => by
   have hpl : p.length + (t.length + 1) = svs.length := by rw [← h]; simp
   have hx := hok x (by rw [← h]; simp)
   have hil := Qbb (z := (p.length : Int)) (by omega) (by omega)
   have hP := hlen p
   refine Evt.imp2 (Evt.imp2 (QgW lb x.cd 4 4 hx) (Qe1 lb (p.length : Int) (by omega) (by omega)) fun n a b => And.intro a b) ih fun n ⟨c1, c2⟩ hi k hk => ?_
   have hi := hi k hk
   rw [QiP]
   refine stT (decT h1) (stO _ h2 (stC rfl (stO _ rfl (stO _ rfl (stO _ rfl (stO _ c2 (stO _ rfl (stC (decT (by simp; omega)) (stO _ c1 (stO _ (QaU _) ?_))))))))))
   refine (acc (!Qb7 x.cd 4 4) (F ++ idxF (svF jf.length je.length) 0 p) 5 (QbG ++ Lib.itoa (p.length : Int)) (by simp; omega) (fun b l => QeQ lb n k jj ja jf jg jb je jd (svs.map svE) jc jq wN (p.length : Int) (Lib.itoa (p.length : Int)) jp jn jl jo js (svE x) (.str x.cd) (.int .i64 x.pe) (.int .i64 x.sg) (.str (Lib.itoa (p.length : Int))) b l)).trans ?_
   refine (QxR (x := x) (h7 := rfl) (h8 := rfl) (hG := by
    have := Qbn (!Qb7 x.cd 4 4) 5 (QbG ++ Lib.itoa (p.length : Int))
    rw [List.length_append, List.length_append]; omega) ..).trans ?_
   rw [h3]
   rw [Qfq, Nat.zero_add] at hi
   rw [show svF jf.length je.length p.length x = Qat (!Qb7 x.cd 4 4) 5 (QbG ++ Lib.itoa (p.length : Int)) ++ Qat (Qic jf.length je.length x) 7 (QbG ++ Lib.itoa (p.length : Int)) from rfl] at hi
   simp only [List.append_assoc] at hi ⊢
   exact hi) svs [] rfl)).mono fun n h => by
   rw [QpG]
   have e : F ++ idxF (svF jf.length je.length) 0 ([] : List Sv) = F := List.append_nil F
   rw [e] at h
   exact h
theorem QvA (n yJ : Nat) (jj : List UInt8) (ja : Bool) (jf : List (List CV)) (jg : Int) (jb : Bool) (je : List (List CV)) (jd : Bool) (jh : List (List CV)) (jc : Int) (jq : CV) (yo : Int) (yj : CV) (jp : Bool) (jn : List (List CV)) (jl : CV) (jo : Bool × List (List CV)) (js : CV) (yG : List CV) (jy jz w6 jC jB jA jT jO jN yM : CV) (m : Nat) (h63 : yo = (m : Int)) (hm : m ≤ 1000000) (er : List Int) (hr : yj = errV er) (her : er.length ≤ 10) (F : List Fau) (hF : F.length ≤ 900000) (hdec : C lb n Qdn [.int .i64 yo] = some (.str (Lib.itoa (m : Int)))) : ∀ (t p : List Int), p ++ t = er → ∀ k, t.length < k →
  Qfn lb n k yJ jj ja jf jg jb je jd jh jc jq yo yj jp jn jl jo js yG jy jz w6 jC jB jA jT jO jN yM (F ++ p.map fun e => (e, segS ++ Lib.itoa (m : Int))).isEmpty ((F ++ p.map fun e => (e, segS ++ Lib.itoa (m : Int))).map fauE) (p.length : Int) = Qft lb n yJ jj ja jf jg jb je jd jh jc jq jp jn jl jo js (F ++ er.map fun e => (e, segS ++ Lib.itoa (m : Int))).isEmpty ((F ++ er.map fun e => (e, segS ++ Lib.itoa (m : Int))).map fauE) (IntKind.wrap .i64 (yo + 1))
 | [], p, h, k, hk => by
  obtain ⟨k, rfl⟩ : ∃ j, k = j + 1 := ⟨k - 1, by simp at hk; omega⟩
  have hpe : p = er := by simpa using h
  subst hpe; subst hr
  rw [QiM]
  refine stO _ rfl (stF (decF (by simp)) ?_)
  rw [QqN]
 | e :: t, p, h, k, hk => by
  obtain ⟨k, rfl⟩ : ∃ j, k = j + 1 := ⟨k - 1, by simp at hk; omega⟩
  have hpl : p.length + (t.length + 1) = er.length := by rw [← h]; simp
  have hil := Qbb (z := (m : Int)) (by omega) (by omega)
  have hw : IntKind.wrap .i64 ((p.length : Int) + 1) = ((p ++ [e]).length : Int) := by rw [QaN (by omega) (by omega)]; simp
  have hat : atL (er.map icv) (p.length : Int) = some (icv e) := Qcv (by rw [List.getElem?_map, ← h]; simp)
  have ih := QvA n yJ jj ja jf jg jb je jd jh jc jq yo yj jp jn jl jo js yG jy jz w6 jC jB jA jT jO jN yM m h63 hm er hr her F hF hdec t (p ++ [e]) (by rw [← h]; simp) k (by simp at hk; omega)
  have hFl : (F ++ p.map fun e => (e, segS ++ Lib.itoa (m : Int))).length ≤ 999999 := by rw [List.length_append, List.length_map]; omega
  subst hr
  rw [QiM]
  refine stO _ rfl (stT (decT (by simp; omega)) (stO _ rfl (stO _ hat (stC rfl (stO _ rfl (stO _ hdec (stO _ rfl (stC (decT (by simp; omega)) (stC rfl ?_)))))))))
  refine (accT (F ++ p.map fun e => (e, segS ++ Lib.itoa (m : Int))) e (segS ++ Lib.itoa (m : Int)) hFl (fun b l => Qfn lb n k yJ jj ja jf jg jb je jd jh jc jq yo (errV er) jp jn jl jo js yG jy jz w6 jC jB jA jT jO jN yM b l (IntKind.wrap .i64 ((p.length : Int) + 1)))).trans ?_
  rw [hw]
  rw [List.map_append, ← List.append_assoc] at ih
  exact ih
theorem QzZ (n : Nat) (jj : List UInt8) (ja : Bool) (jf : List (List CV)) (jg : Int) (jb : Bool) (je : List (List CV)) (jd : Bool) (jh : List (List CV)) (jc : Int) (jq : CV) (jp : Bool) (jn : List (List CV)) (jl : CV) (jo : Bool × List (List CV)) (js : CV) (segs : List Sg) (h6 : je = segs.map sgE) (hs : segs.length ≤ 1000) (hsok : ∀ s ∈ segs, (s.car.length ≤ 281474976710656 ∧ s.fr.length ≤ 281474976710656 ∧ s.to.length ≤ 281474976710656) ∧ s.cls.length ≤ 281474976710656) (svs : List Sv) (h9 : jh = svs.map svE) (hl : svs.length ≤ 100000) (hok : ∀ x ∈ svs, x.cd.length ≤ 281474976710656) (F : List Fau) (hF : F.length ≤ 400000) :
  Evt fun n => Qfg lb n jj ja jf jg jb je jd jh jc jq jp jn jl jo js F.isEmpty (F.map fauE) = some (QaY ((F ++ idxF segF 0 segs) ++ idxF (svF jf.length je.length) 0 svs)) := by
 have hlen : ∀ l : List Sg, (idxF segF 0 l).length ≤ 4 * l.length := fun l => Qfl QtF l 0
 have h8 := Qzh lb 0 jj ja jf jg jb je jd jh jc jq jp jn jl jo js (segs.length : Int) svs h9 hl hok (F ++ idxF segF 0 segs) (by have := hlen segs; rw [List.length_append]; omega)
 subst h6
 refine (Evt.diag (QcT (enc := sgE) (l := segs) (P := fun p t n k => Qft lb n k jj ja jf jg jb (segs.map sgE) jd jh jc jq jp jn jl jo js (F ++ idxF segF 0 p).isEmpty ((F ++ idxF segF 0 p).map fauE) (p.length : Int) = some (QaY ((F ++ idxF segF 0 segs) ++ idxF (svF jf.length (segs.map sgE).length) 0 svs))) (by omega)
  (h8.mono fun n h k => by
   rw [QiY]
   exact stF (decF (by simp)) h)
  (fun p x t h h1 h2 h3 ih => by
   have hpl : p.length + (t.length + 1) = segs.length := by rw [← h]; simp
   have hx := hsok x (by rw [← h]; simp)
   have hP := hlen p
   refine Evt.imp2 (Evt.imp2 (Qym lb x hx.2 hx.1.1 hx.1.2.1 hx.1.2.2) (Evt.imp2 (Qe1 lb (p.length : Int) (by omega) (by omega)) (Evt.ge 6) fun n a b => And.intro a b) fun n a b => And.intro a b) ih fun n ⟨c1, c2, c3⟩ hi k hk => ?_
   have hi := hi k hk
   rw [QiY]
   refine stT (decT h1) (stO _ h2 (stC rfl (stO _ rfl (stO _ rfl (stO _ rfl (stO _ rfl (stO _ rfl (stO _ rfl (stO _ rfl (stO _ rfl (stO _ rfl (stO _ rfl (stO _ c1 ?_)))))))))))))
   have hL := QvA (lb := lb) (n := n) (yJ := k) (m := p.length) (yo := (p.length : Int)) (h63 := rfl) (hm := by omega) (er := QcJ x) (yj := errV (QcJ x)) (hr := rfl) (her := by have := QgZ x; omega) (F := F ++ idxF segF 0 p) (hF := by rw [List.length_append]; omega) (hdec := c2) (jj := jj) (ja := ja) (jf := jf) (jg := jg) (jb := jb) (je := segs.map sgE) (jd := jd) (jh := jh) (jc := jc) (jq := jq) (jp := jp) (jn := jn) (jl := jl) (jo := jo) (js := js) (yG := sgE x) (jy := .str x.car) (jz := .int .i64 x.num) (w6 := .int .i64 x.day) (jC := .str x.fr) (jB := .str x.to) (jA := .int .i64 x.dep) (jT := .int .i64 x.arr) (jO := .str x.cls) (jN := .int .i64 x.st) (yM := .int .i64 x.mar) (QcJ x) [] rfl n (by have := QgZ x; omega)
   rw [List.map_nil, List.append_nil, h3] at hL
   refine Eq.trans hL ?_
   rw [Qfq, Nat.zero_add] at hi
   rw [show segF p.length x = (QcJ x).map (fun e => (e, segS ++ Lib.itoa (p.length : Int))) from rfl] at hi
   rw [List.append_assoc]
   exact hi) segs [] rfl)).mono fun n h => by
   rw [QqO]
   have e : F ++ idxF segF 0 ([] : List Sg) = F := List.append_nil F
   rw [e] at h
   exact h
theorem QuY (s : Bs) (hs : s.length ≤ 281474976710656) : Ret lb QiB [.str s] (.bool (Qb7 s 6 6)) :=
 .top rfl ((QgW lb s 6 6 hs).mono fun n h => by
  rw [Qq3]
  exact stO _ h rfl)
def QcU (b : Bk) : List Fau := QnJ b.loc b.ps b.grp b.segs b.svs b.lim
theorem QsW (b : Bk) (hloc : b.loc.length ≤ 281474976710656) (hps : b.ps.length ≤ 1000) (hpok : ∀ p ∈ b.ps, PeSm p) (hs : b.segs.length ≤ 1000) (hsok : ∀ s ∈ b.segs, (s.car.length ≤ 281474976710656 ∧ s.fr.length ≤ 281474976710656 ∧ s.to.length ≤ 281474976710656) ∧ s.cls.length ≤ 281474976710656) (hl : b.svs.length ≤ 100000) (hok : ∀ x ∈ b.svs, x.cd.length ≤ 281474976710656) :
  Ret lb Qag [.agg (bkE b)] (QaY (QcU b)) := by
 have hmm : (mars b.segs).length ≤ 1000 := by simpa [mars] using hs
 have hpl := Qvi b.ps b.grp
 have h3 : ∀ F : List Fau, F.length ≤ 300000 → ∀ jp jn jl jo, Evt fun n => QdO lb n b.loc b.pn (b.ps.map peE) b.grp b.bn (b.segs.map sgE) b.rn (b.svs.map svE) b.lim jp jn jl jo F.isEmpty (F.map fauE) = some (QaY (((F ++ Qat (marE (mars b.segs) != 0) (marE (mars b.segs)) Qce) ++ idxF segF 0 b.segs) ++ idxF (svF b.ps.length b.segs.length) 0 b.svs)) := fun F hF jp jn jl jo => by
  have h4 := QzZ lb 0 b.loc b.pn (b.ps.map peE) b.grp b.bn (b.segs.map sgE) b.rn (b.svs.map svE) b.lim (.int .i64 (marE (mars b.segs))) jp jn jl jo (.list b.segs.isEmpty ((mars b.segs).map icv)) b.segs rfl hs hsok b.svs rfl hl hok (F ++ Qat (marE (mars b.segs) != 0) (marE (mars b.segs)) Qce) (by
   have := Qbn (marE (mars b.segs) != 0) (marE (mars b.segs)) Qce
   rw [List.length_append]; omega)
  rw [List.length_map, List.length_map] at h4
  refine Evt.imp2 (Evt.imp2 (Qp5 lb b (by omega)) (QsX lb b.segs.isEmpty (mars b.segs) (by omega)) fun n x y => And.intro x y) h4 fun n ⟨c1, c2⟩ h => ?_
  rw [QpX]
  refine stO _ c1 (stO _ c2 (stO _ (Qae ..) ?_))
  exact (acc (marE (mars b.segs) != 0) F (marE (mars b.segs)) Qce (by omega) (fun q l => Qfg lb n b.loc b.pn (b.ps.map peE) b.grp b.bn (b.segs.map sgE) b.rn (b.svs.map svE) b.lim (.int .i64 (marE (mars b.segs))) jp jn jl jo (.list b.segs.isEmpty ((mars b.segs).map icv)) q l)).trans h
 have h2 : ∀ F : List Fau, F.length ≤ 10 → Evt fun n => QdU lb n b.loc b.pn (b.ps.map peE) b.grp b.bn (b.segs.map sgE) b.rn (b.svs.map svE) b.lim F.isEmpty (F.map fauE) = some (QaY (((((F ++ QaE b.ps b.grp) ++ Qat (decide ((b.segs.length : Int) > 24)) 4 Qce) ++ Qat (marE (mars b.segs) != 0) (marE (mars b.segs)) Qce) ++ idxF segF 0 b.segs) ++ idxF (svF b.ps.length b.segs.length) 0 b.svs)) := fun F hF => by
  have h4 := h3 ((F ++ QaE b.ps b.grp) ++ Qat (decide ((b.segs.length : Int) > 24)) 4 Qce) (by
   have := Qbn (decide ((b.segs.length : Int) > 24)) 4 Qce
   simp only [List.length_append]; omega) F.isEmpty (F.map fauE) (QaY (QaE b.ps b.grp)) ((QaE b.ps b.grp).isEmpty, (QaE b.ps b.grp).map fauE)
  refine Evt.imp2 (QsH lb b.pn b.ps b.grp (by omega) hpok) h4 fun n c1 h => ?_
  rw [Qpo]
  refine stO _ c1 (stO _ rfl (stC (by simp [fauE]) (stC (Qbg (by simp; omega)) ?_)))
  have e0 : ∀ a b : List Fau, (a.isEmpty && (b.map fauE).isEmpty) = (a ++ b).isEmpty := fun a b => by cases a <;> cases b <;> rfl
  have e1 := e0 F (QaE b.ps b.grp)
  have e2 : F.map fauE ++ (QaE b.ps b.grp).map fauE = (F ++ QaE b.ps b.grp).map fauE := by simp
  show (bif decide ((((b.segs.map sgE).length : Nat) : Int) > 24) then chkO (room ((F.map fauE ++ (QaE b.ps b.grp).map fauE).length + 1) 24) (QdO lb n b.loc b.pn (b.ps.map peE) b.grp b.bn (b.segs.map sgE) b.rn (b.svs.map svE) b.lim F.isEmpty (F.map fauE) (QaY (QaE b.ps b.grp)) ((QaE b.ps b.grp).isEmpty, (QaE b.ps b.grp).map fauE) ((F.isEmpty && ((QaE b.ps b.grp).map fauE).isEmpty) && false) ((F.map fauE ++ (QaE b.ps b.grp).map fauE) ++ [[CV.int .i64 4, CV.str Qce]])) else QdO lb n b.loc b.pn (b.ps.map peE) b.grp b.bn (b.segs.map sgE) b.rn (b.svs.map svE) b.lim F.isEmpty (F.map fauE) (QaY (QaE b.ps b.grp)) ((QaE b.ps b.grp).isEmpty, (QaE b.ps b.grp).map fauE) (F.isEmpty && ((QaE b.ps b.grp).map fauE).isEmpty) (F.map fauE ++ (QaE b.ps b.grp).map fauE)) = _
  rw [e1, e2, List.length_map]
  exact (acc (decide ((b.segs.length : Int) > 24)) (F ++ QaE b.ps b.grp) 4 Qce (by rw [List.length_append]; omega) (fun q l => QdO lb n b.loc b.pn (b.ps.map peE) b.grp b.bn (b.segs.map sgE) b.rn (b.svs.map svE) b.lim F.isEmpty (F.map fauE) (QaY (QaE b.ps b.grp)) ((QaE b.ps b.grp).isEmpty, (QaE b.ps b.grp).map fauE) q l)).trans h
 have h1 : ∀ F : List Fau, F.length ≤ 9 → Evt fun n => r35_Check_J1 lb n b.loc b.pn (b.ps.map peE) b.grp b.bn (b.segs.map sgE) b.rn (b.svs.map svE) b.lim F.isEmpty (F.map fauE) = some (QaY ((((((F ++ Qat (Qhi b.lim) 13 Qfe) ++ QaE b.ps b.grp) ++ Qat (decide ((b.segs.length : Int) > 24)) 4 Qce) ++ Qat (marE (mars b.segs) != 0) (marE (mars b.segs)) Qce) ++ idxF segF 0 b.segs) ++ idxF (svF b.ps.length b.segs.length) 0 b.svs)) := fun F hF => by
  refine (h2 (F ++ Qat (Qhi b.lim) 13 Qfe) (by
   have := Qbn (Qhi b.lim) 13 Qfe
   rw [List.length_append]; omega)).mono fun n h => ?_
  have hT := accT F 13 Qfe (by omega) (fun q m => QdU lb n b.loc b.pn (b.ps.map peE) b.grp b.bn (b.segs.map sgE) b.rn (b.svs.map svE) b.lim q m)
  have hN := accF F 13 Qfe (fun q m => QdU lb n b.loc b.pn (b.ps.map peE) b.grp b.bn (b.segs.map sgE) b.rn (b.svs.map svE) b.lim q m)
  rw [Qpi]
  unfold Qhi at h ⊢
  cases h0 : decide (b.lim < 0) with
  | true => rw [h0] at h; exact stT rfl (hT.trans h)
  | false =>
   rw [h0] at h
   refine stF rfl ?_
   cases h9 : decide (b.lim ≥ 52596000) with
   | true => rw [h9] at h; exact stT rfl (hT.trans h)
   | false => rw [h9] at h; exact stF rfl (hN.trans h)
 refine .top rfl (Evt.imp2 (QuY lb b.loc hloc) (h1 (Qat (!Qb7 b.loc 6 6) 5 Qjt) (by have := Qbn (!Qb7 b.loc 6 6) 5 Qjt; omega)) fun n c h => ?_)
 rw [show top lb n Qag [.agg (bkE b)] = _ from Qtu lb n b.loc b.pn (b.ps.map peE) b.grp b.bn (b.segs.map sgE) b.rn (b.svs.map svE) b.lim]
 refine stO _ c (stO _ (QaU _) ?_)
 unfold QcU QnJ
 cases hc : Qb7 b.loc 6 6 with
 | true => rw [hc] at h; exact stF rfl h
 | false => rw [hc] at h; exact stT rfl h
end Go.Proofs
