/- Chapter 35: the reference's check of a booking gives the same violations. Conditions: as each says. -/
import Derived.Test.YtigmcfhmpcajlaaGreatDoorCq
import Derived.Test.YtigmcfhmpcajlaaGreatDoorBD
import Derived.Test.YtigmcfhmpcajlaaGreatDoorGx
set_option linter.unusedSimpArgs false
set_option linter.unusedVariables false
namespace Go.Proofs
open Go.Am
variable (lb : Nat)
theorem Qq6 (bn : Bool) (l : List Int) (hl : l.length ≤ 1000000) (i : Int) (h0 : 0 ≤ i) (h1 : i < (l.length : Int)) : Ret lb QdO [.list bn (l.map icv), .int .i64 i] (.bool (Qgi l i)) := by
 refine .top rfl (.all fun n => ?_)
 have hlen : (((l.map icv).length : Nat) : Int) = (l.length : Int) := by simp
 have w1 : IntKind.wrap .i64 (i - 1) = i - 1 := QaB (by omega) (by omega)
 have w2 : IntKind.wrap .i64 (i + 1) = i + 1 := QaB (by omega) (by omega)
 have ai := Qff h0 h1
 rw [QnF, w1, w2, hlen]
 unfold Qgi
 by_cases hi : i > 0
 ·have am := Qff (l := l) (i := i - 1) (by omega) (by omega)
  refine stT (decT hi) (stO _ am (stC rfl (stO _ rfl (stO _ ai (stC rfl (stO _ rfl (stO _ (QaK ..) (stO _ (QaK ..) ?_))))))))
  rw [decT hi]
  cases he : nthI l (i - 1) == nthI l i with
  | true => exact stT rfl rfl
  | false =>
   refine stF rfl ?_
   by_cases hj : i + 1 < (l.length : Int)
   ·have ap := Qff (l := l) (i := i + 1) (by omega) hj
    rw [decT hj]
    exact stT rfl (stO _ ap (stC rfl (stO _ rfl (stO _ ai (stC rfl (stO _ rfl (stO _ (QaK ..) (stO _ (QaK ..) rfl))))))))
   ·rw [decF hj]
    exact stF rfl rfl
 ·refine stF (decF hi) ?_
  rw [decF hi]
  by_cases hj : i + 1 < (l.length : Int)
  ·have ap := Qff (l := l) (i := i + 1) (by omega) hj
   rw [decT hj]
   exact stT rfl (stO _ ap (stC rfl (stO _ rfl (stO _ ai (stC rfl (stO _ rfl (stO _ (QaK ..) (stO _ (QaK ..) rfl))))))))
  ·rw [decF hj]
   exact stF rfl rfl
theorem Qu2 (n wU : Nat) (bn : Bool) (l : List Int) (jW : Int) (hl : l.length ≤ 1000000) (i : Nat) (hi : i < l.length) : ∀ (d j : Nat), (j + d = l.length ∨ (d = 0 ∧ l.length ≤ j ∧ j ≤ 1000002)) → i + 2 ≤ j → ∀ k, d < k →
  Qdt lb n k wU bn (l.map icv) jW ((i : Nat) : Int) (j : Int) = if (decide (nthI l (i : Int) > 0) && Qgo l (i : Int) j d) = true then some (.int .i64 18) else Qe3 lb n wU bn (l.map icv) jW (IntKind.wrap .i64 ((i : Int) + 1))
 | 0, j, h, hj, k, hk => by
  obtain ⟨k, rfl⟩ : ∃ m, k = m + 1 := ⟨k - 1, by omega⟩
  rw [Qh6]
  refine stF (decF (by simp; omega)) ?_
  rw [QoB]
  simp [Qgo]
 | d + 1, j, h, hj, k, hk => by
  obtain ⟨k, rfl⟩ : ∃ m, k = m + 1 := ⟨k - 1, by omega⟩
  have hw : IntKind.wrap .i64 ((j : Int) + 1) = ((j + 1 : Nat) : Int) := by rw [QaB (by omega) (by omega)]; omega
  have hw1 : IntKind.wrap .i64 ((j : Int) - 1) = (j : Int) - 1 := QaB (by omega) (by omega)
  have ih := Qu2 n wU bn l jW hl i hi d (j + 1) (.inl (by omega)) (by omega) k (by omega)
  have ai := Qff (l := l) (i := (i : Int)) (by omega) (by omega)
  have aj := Qff (l := l) (i := (j : Int)) (by omega) (by omega)
  have am := Qff (l := l) (i := (j : Int) - 1) (by omega) (by omega)
  rw [Qh6, hw, hw1]
  refine stT (decT (by simp; omega)) (stO _ ai (stC rfl (stO _ rfl (stO _ (QaK ..) ?_))))
  cases hp : decide (nthI l (i : Int) > 0) with
  | false =>
   rw [hp] at ih
   refine stF rfl (ih.trans ?_)
   simp
  | true =>
   rw [hp] at ih
   refine stT rfl (stO _ aj (stC rfl (stO _ rfl (stO _ ai (stC rfl (stO _ rfl (stO _ (QaK ..) (stO _ (QaK ..) ?_))))))))
   unfold Qgo
   cases he : nthI l (j : Int) == nthI l (i : Int) with
   | false => exact stF rfl (ih.trans (by simp))
   | true =>
    refine stT rfl (stO _ am (stC rfl (stO _ rfl (stO _ ai (stC rfl (stO _ rfl (stO _ (QaK ..) (stO _ (QaK ..) ?_))))))))
    cases hq : nthI l ((j : Int) - 1) != nthI l (i : Int) with
    | true => exact stT rfl (by simp)
    | false => exact stF rfl (ih.trans (by simp))
theorem Quu (n : Nat) (bn : Bool) (l : List Int) (jW : Int) (hl : l.length ≤ 1000000) (hn : l.length < n) (hN : ∀ i ∈ upTo l.length, C lb n QdO [.list bn (l.map icv), .int .i64 i] = some (.bool (Qgi l i))) : ∀ (d i : Nat), i + d = l.length → ∀ k, d < k →
  Qe3 lb n k bn (l.map icv) jW (i : Int) = some (.int .i64 (if badR l i d then 18 else 0))
 | 0, i, h, k, hk => by
  obtain ⟨k, rfl⟩ : ∃ m, k = m + 1 := ⟨k - 1, by omega⟩
  rw [Qh4]
  refine stF (decF (by simp; omega)) ?_
  rw [Qop]; rfl
 | d + 1, i, h, k, hk => by
  obtain ⟨k, rfl⟩ : ∃ m, k = m + 1 := ⟨k - 1, by omega⟩
  have hw : IntKind.wrap .i64 ((i : Int) + 1) = ((i + 1 : Nat) : Int) := by rw [QaB (by omega) (by omega)]; omega
  have hw2 : IntKind.wrap .i64 ((i : Int) + 2) = ((i + 2 : Nat) : Int) := by rw [QaB (by omega) (by omega)]; omega
  have ih := Quu n bn l jW hl hn hN d (i + 1) (by omega) k (by omega)
  have ai := Qff (l := l) (i := (i : Int)) (by omega) (by omega)
  have h4 := Qu2 lb n k bn l jW hl i (by omega) (l.length - (i + 2)) (i + 2) (by omega) (by omega) n (by omega)
  rw [hw, ih] at h4
  rw [Qh4, hw2]
  refine stT (decT (by simp; omega)) (stO _ ai (stC rfl (stO _ rfl (stO _ (QaK ..) ?_))))
  unfold badR
  cases hp : decide (nthI l (i : Int) > 0) with
  | false =>
   rw [hp] at h4
   exact stF rfl (h4.trans (by simp))
  | true =>
   rw [hp] at h4
   refine stT rfl (stO _ (hN (i : Int) (QeS.2 ⟨by omega, by omega⟩)) (stO _ (QaM _) ?_))
   cases hb : Qgi l (i : Int) with
   | false => exact stT rfl (by simp)
   | true =>
    refine stF rfl (h4.trans ?_)
    cases Qgo l (i : Int) (i + 2) (l.length - (i + 2)) <;> simp
theorem Qrc (bn : Bool) (l : List Int) (hl : l.length ≤ 1000000) : Ret lb Qar [.list bn (l.map icv)] (.int .i64 (marE l)) := by
 rw [← Qwp]
 have hN : Evt fun n => ∀ i ∈ upTo l.length, C lb n QdO [.list bn (l.map icv), .int .i64 i] = some (.bool (Qgi l i)) := Evt.fin (upTo l.length) fun i hi => Qq6 lb bn l hl i (QeS.1 hi).1 (QeS.1 hi).2
 refine .top rfl ((Evt.diag (Qea (enc := icv) (l := l) (P := fun p t n k => QgB lb n k bn (l.map icv) (p.length : Int) = some (.int .i64 (if t.any (fun x => decide (x < 0)) then 2 else if badR l 0 l.length then 18 else 0))) (by omega)
  (Evt.imp2 hN (Evt.ge (l.length + 1)) fun n h1 h2 k => by
   rw [Qid]
   refine stF (decF (by simp)) ?_
   rw [QoZ]
   exact Quu lb n bn l _ hl (by omega) h1 l.length 0 (by omega) n (by omega))
  (fun p y t h h1 h2 h3 ih => ih.mono fun n hi k hk => by
   rw [Qid, List.any_cons]
   refine stT (decT h1) (stO _ h2 (stC rfl (stO _ rfl (stO _ (QaK ..) ?_))))
   cases hy : decide (y < 0) with
   | true => exact stT rfl rfl
   | false =>
    refine stF rfl ?_
    rw [h3, hi k hk]
    rfl) l [] rfl)).mono fun n h => by rw [Qrv]; exact h)
theorem Qpg (b : Bk) (hl : b.segs.length ≤ 1000000) : Ret lb Qbj [.agg (bkE b)] (.list b.segs.isEmpty ((mars b.segs).map icv)) :=
 .top rfl ((Evt.diag (Qea (enc := sgE) (l := b.segs) (P := fun p t n k => Qe5 lb n k b.loc b.pn (b.ps.map peE) b.grp b.bn (b.segs.map sgE) b.rn (b.svs.map svE) b.lim p.isEmpty ((mars p).map icv) (p.length : Int) = some (.list b.segs.isEmpty ((mars b.segs).map icv))) (by omega)
  (.all fun n k => by
   rw [QgN]
   refine stF (decF (by simp)) ?_
   rw [Qm6])
  (fun p x t h h1 h2 h3 ih => ih.mono fun n hi k hk => by
   have hpl : p.length + (t.length + 1) = b.segs.length := by rw [← h]; simp
   rw [QgN]
   refine stT (decT h1) (stO _ h2 (stC rfl (stO _ rfl (stC rfl (stC (Qer (by simp [mars]; omega)) ?_)))))
   rw [h3]
   have := hi k hk
   have e : (p.isEmpty && false) = (p ++ [x]).isEmpty := by simp
   rw [e]
   simpa [mars, icv] using this) b.segs [] rfl)).mono fun n h => by
   rw [show top lb n Qbj [.agg (bkE b)] = _ from QpU lb n b.loc b.pn (b.ps.map peE) b.grp b.bn (b.segs.map sgE) b.rn (b.svs.map svE) b.lim]
   exact h)
theorem QqK : Ret lb QjH [] (.list false [[CV.str []], [CV.str [72, 75]], [CV.str [72, 76]], [CV.str [75, 76]], [CV.str [84, 75]], [CV.str [85, 78]], [CV.str [85, 67]], [CV.str [88, 88]]]) := .top rfl (.all fun n => Qrh lb n)
theorem Qre (x : Int) : Ret lb Qk1 [.int .i64 x] (Qim x) :=
 .top rfl ((QqK lb).mono fun n h => by
  rw [Qs6]
  unfold Qim
  by_cases h1 : x ≤ 0
  ·have : stOk x = false := by simp [stOk]; omega
   rw [this]
   exact stT (decT h1) rfl
  ·by_cases h2 : x > 7
   ·have : stOk x = false := by simp [stOk]; omega
    rw [this]
    exact stF (decF h1) (stT (decT h2) rfl)
   ·have h3 : x = 1 ∨ x = 2 ∨ x = 3 ∨ x = 4 ∨ x = 5 ∨ x = 6 ∨ x = 7 := by omega
    refine stF (decF h1) (stF (decF h2) (stO _ h (stO _ rfl ?_)))
    rcases h3 with rfl | rfl | rfl | rfl | rfl | rfl | rfl <;> exact stO _ rfl (stC rfl (stO _ rfl rfl)))
theorem QwJ (s : Sg) (l : List Int) (hl : l.length ≤ 3) : Evt fun n => Qfc lb n s.car s.num s.day s.fr s.to s.dep s.arr s.cls s.st s.mar l.isEmpty (l.map icv) = some (errV (l ++ Qbn (stOk s.st) 10)) :=
 (Qre lb s.st).mono fun n h => by
  rw [Qm5]
  refine stO _ h ?_
  unfold Qim
  cases stOk s.st with
  | true =>
   refine stO _ rfl (stO _ rfl (stO _ rfl (stO _ rfl (stO _ rfl (stF rfl ?_)))))
   show _ = some (errV (l ++ []))
   rw [List.append_nil]; rfl
  | false =>
   refine stO _ rfl (stO _ rfl (stO _ rfl (stO _ rfl (stO _ rfl (stT rfl (stC (Qhu (by omega)) ?_))))))
   rw [Qiq, Qio l 10]; rfl
theorem QwB (s : Sg) (hc : s.cls.length ≤ 281474976710656) (l : List Int) (hl : l.length ≤ 2) : Evt fun n => Qdh lb n s.car s.num s.day s.fr s.to s.dep s.arr s.cls s.st s.mar l.isEmpty (l.map icv) = some (errV ((l ++ Qbn (Qc2 s.cls) 16) ++ Qbn (stOk s.st) 10)) := by
 refine Evt.imp2 (Qq3 lb s.cls hc) (QwJ lb s (l ++ Qbn (Qc2 s.cls) 16) (by unfold Qbn; cases Qc2 s.cls <;> simp <;> omega)) fun n h h3 => ?_
 rw [QmY]
 refine stO _ h (stO _ (QaM _) ?_)
 cases hc : Qc2 s.cls with
 | true =>
  rw [hc] at h3
  refine stF rfl ?_
  have e : l ++ Qbn true 16 = l := List.append_nil l
  rw [e] at h3 ⊢
  exact h3
 | false =>
  rw [hc] at h3
  refine stT rfl (stC (Qhu (by omega)) ?_)
  rw [Qiq, Qio l 16]
  exact h3
theorem Qwe (s : Sg) (hc : s.cls.length ≤ 281474976710656) (l : List Int) (hl : l.length ≤ 1) : Evt fun n => Qdi lb n s.car s.num s.day s.fr s.to s.dep s.arr s.cls s.st s.mar l.isEmpty (l.map icv) = some (errV (((l ++ Qbn (QdG s) 13) ++ Qbn (Qc2 s.cls) 16) ++ Qbn (stOk s.st) 10)) := by
 refine (QwB lb s hc (l ++ Qbn (QdG s) 13) (by unfold Qbn; cases QdG s <;> simp <;> omega)).mono fun n h => ?_
 rw [QmP]
 cases ht : QdG s with
 | true =>
  rw [ht] at h
  have e : l ++ Qbn true 13 = l := List.append_nil l
  rw [e] at h ⊢
  simp only [QdG, decide_eq_true_eq] at ht
  exact stF (decF (by omega)) (stF (decF (by omega)) (stF (decF (by omega)) h))
 | false =>
  rw [ht] at h
  simp only [QdG, decide_eq_false_iff_not] at ht
  rw [Qiq, Qio l 13]
  by_cases h1 : s.dep < 0
  ·exact stT (decT h1) (stC (Qhu (by omega)) h)
  ·by_cases h2 : s.dep ≥ s.arr
   ·exact stF (decF h1) (stT (decT (by omega)) (stC (Qhu (by omega)) h))
   ·exact stF (decF h1) (stF (decF (by omega)) (stT (decT (by omega)) (stC (Qhu (by omega)) h)))
theorem QvD (s : Sg) (hc : s.cls.length ≤ 281474976710656) (h1 : s.car.length ≤ 281474976710656) (h2 : s.fr.length ≤ 281474976710656) (h3 : s.to.length ≤ 281474976710656) : Ret lb Qbd [.agg (sgE s)] (errV (QcN s)) := by
 refine .top rfl (Evt.imp2 (Evt.imp2 (Qpk lb s.car h1) (Evt.imp2 (Qjr lb s.fr h2) (Qjr lb s.to h3) fun n a b => (⟨a, b⟩ : _ ∧ _)) fun n a b => (⟨a, b⟩ : _ ∧ _)) (Qwe lb s hc (Qbn (Qcz s) 5) (by unfold Qbn; cases Qcz s <;> simp)) fun n ⟨c1, c2, c3⟩ h => ?_)
 rw [show top lb n Qbd [.agg (sgE s)] = _ from QpY lb n s.car s.num s.day s.fr s.to s.dep s.arr s.cls s.st s.mar]
 refine stO _ c1 (stO _ (QaM _) ?_)
 unfold QcN
 cases k1 : QfO s.car with
 | false =>
  have : Qcz s = false := by unfold Qcz; rw [k1]; rfl
  rw [this] at h ⊢
  exact stT rfl h
 | true =>
  refine stF rfl (stO _ c2 (stO _ (QaM _) ?_))
  cases k2 : Qc0 s.fr with
  | false =>
   have : Qcz s = false := by unfold Qcz; rw [k1, k2]; rfl
   rw [this] at h ⊢
   exact stT rfl h
  | true =>
   refine stF rfl (stO _ c3 (stO _ (QaM _) ?_))
   have : Qcz s = Qc0 s.to := by unfold Qcz; rw [k1, k2]; rfl
   rw [this] at h ⊢
   cases k3 : Qc0 s.to with
   | false => rw [k3] at h; exact stT rfl h
   | true => rw [k3] at h; exact stF rfl h
def PeSm (p : Pe) : Prop := p.la.length ≤ 1000000000 ∧ p.fi.length ≤ 1000000000 ∧ p.ty.length ≤ 281474976710656
theorem Qq2 (p : Pe) (h : PeSm p) : Ret lb Qhp [.agg (peE p)] (.bool (Qen p)) :=
 .top rfl (Evt.imp2 (Qmo lb p.la h.1) (Qmo lb p.fi h.2.1) fun n h1 h2 => by
  rw [show top lb n Qhp [.agg (peE p)] = _ from Qsw lb n p.la p.fi p.ty]
  refine stO _ h1 (stO _ (QaM _) ?_)
  unfold Qen
  cases QgA p.la with
  | true => exact stT rfl (stO _ h2 rfl)
  | false => exact stF rfl rfl)
theorem QqZ (p : Pe) (h : PeSm p) : Ret lb Qhk [.agg (peE p)] (.bool (Qfz p)) :=
 .top rfl ((Qgg lb p.ty 3 3 h.2.2).mono fun n h1 => by
  rw [show top lb n Qhk [.agg (peE p)] = _ from Qrf lb n p.la p.fi p.ty]
  exact stO _ h1 rfl)
theorem Qmy (bn : Bool) (l : List Pe) (hl : l.length ≤ 1000000) : ∀ (t u : List Pe) (i a : Int), u ++ t = l → 0 ≤ i → i ≤ (u.length : Int) → 0 ≤ a → a ≤ (u.length : Int) → ∀ n k, t.length < k → Qew lb n k bn (l.map peE) i a (u.length : Int) = some (.bool (!decide (Qcc (i - a) t > 0)))
 | [], u, i, a, h, _, _, _, _, n, k, hk => by
  obtain ⟨k, rfl⟩ : ∃ j, k = j + 1 := ⟨k - 1, by simp at hk; omega⟩
  have hu : u = l := by simpa using h
  rw [Qiu, hu]
  refine stF (decF (by simp)) ?_
  rw [QpX]
  have : decide (i ≤ a) = !decide (i - a > 0) := by by_cases h : i ≤ a <;> simp [h] <;> omega
  rw [this]; rfl
 | p :: t, u, i, a, h, i0, i1, a0, a1, n, k, hk => by
  obtain ⟨k, rfl⟩ : ∃ j, k = j + 1 := ⟨k - 1, by simp at hk; omega⟩
  have hul : u.length + (t.length + 1) = l.length := by rw [← h]; simp
  have hw : IntKind.wrap .i64 ((u.length : Int) + 1) = ((u ++ [p]).length : Int) := by rw [QaB (by omega) (by omega)]; simp
  have hat : atL (l.map peE) (u.length : Int) = some (peE p) := Qbz (by rw [List.getElem?_map, ← h]; simp)
  have wi : IntKind.wrap .i64 (i + 1) = i + 1 := QaB (by omega) (by omega)
  have wa : IntKind.wrap .i64 (a + 1) = a + 1 := QaB (by omega) (by omega)
  have hul2 : ((u ++ [p]).length : Int) = (u.length : Int) + 1 := by simp
  rw [Qiu, hw, wi, wa]
  unfold Qcc
  refine stT (decT (by simp; omega)) (stO _ hat (stC rfl (stO _ rfl (stO _ rfl ?_))))
  cases hI : infB p with
  | true =>
   have hA : aduB p = false := by unfold aduB; rw [hI]; rfl
   have ih := Qmy bn l hl t (u ++ [p]) (i + 1) a (by rw [← h]; simp) (by omega) (by omega) a0 (by omega) n k (by simp at hk; omega)
   refine stT hI (ih.trans ?_)
   rw [hA]
   simp only [cond_true, cond_false]
   rw [show i + 1 - a = i - a + 1 - 0 by omega]
  | false =>
   refine stF hI (stO _ hat (stC rfl (stO _ rfl (stO _ rfl ?_))))
   cases hA : aduB p with
   | true =>
    have ih := Qmy bn l hl t (u ++ [p]) i (a + 1) (by rw [← h]; simp) i0 (by omega) (by omega) (by omega) n k (by simp at hk; omega)
    have hc : (!(p.ty == [67, 72, 68])) = true := by unfold aduB at hA; rw [hI] at hA; simpa using hA
    refine stT hc (ih.trans ?_)
    simp only [cond_true, cond_false]
    rw [show i - (a + 1) = i - a + 0 - 1 by omega]
   | false =>
    have ih := Qmy bn l hl t (u ++ [p]) i a (by rw [← h]; simp) i0 (by omega) a0 (by omega) n k (by simp at hk; omega)
    have hc : (!(p.ty == [67, 72, 68])) = false := by unfold aduB at hA; rw [hI] at hA; simpa using hA
    exact stF hc (ih.trans (by simp))
theorem Qvf (bn : Bool) (l : List Pe) (hl : l.length ≤ 1000000) : Ret lb Qb6 [.list bn (l.map peE)] (.bool (!decide (Qcc 0 l > 0))) :=
 .top rfl ((Evt.ge (l.length + 1)).mono fun n hn => by
  rw [QsT]
  exact Qmy lb bn l hl l [] 0 0 rfl (by omega) (by omega) (by omega) (by omega) n n (by omega))
theorem Qmg (bn : Bool) (ps : List Pe) (i : Int) (l : List Fau) (g : Int) (hps : ps.length ≤ 1000000) (hl : l.length ≤ 900000) (g0 : 0 ≤ g) (g1 : g ≤ 99) :
  Evt fun n => Qe1 lb n bn (ps.map peE) i g l.isEmpty (l.map fauE) = some (QaV ((l ++ Qav (QaS ps.length g) 4 QaT) ++ Qav (decide (Qcc 0 ps > 0)) 25 QaT)) :=
 (Qvf lb bn ps hps).mono fun n h => by
  have hlen : (((ps.map peE).length : Nat) : Int) = (ps.length : Int) := by simp
  have hw : IntKind.wrap .i64 ((ps.length : Int) + g) = (ps.length : Int) + g := QaB (by omega) (by omega)
  have five : ∀ F : List Fau, F.length ≤ 999999 → Qb1 lb n bn (ps.map peE) g i F.isEmpty (F.map fauE) = some (QaV (F ++ Qav (decide (Qcc 0 ps > 0)) 25 QaT)) := fun F hF => by
   rw [Qo3]
   refine stO _ h (stO _ (QaM _) ?_)
   rw [Bool.not_not]
   exact acc (decide (Qcc 0 ps > 0)) F 25 QaT hF (fun b l => some (.list b l))
  have bad := (accT l 4 QaT (by omega) (fun b m => Qb1 lb n bn (ps.map peE) g i b m)).trans (five (l ++ Qav true 4 QaT) (by have := Qa8 true 4 QaT; rw [List.length_append]; omega))
  have good := (accF l 4 QaT (fun b m => Qb1 lb n bn (ps.map peE) g i b m)).trans (five (l ++ Qav false 4 QaT) (by have := Qa8 false 4 QaT; rw [List.length_append]; omega))
  rw [Qog, hlen, hw]
  by_cases h0 : (ps.length : Int) + g = 0
  ·rw [show QaS ps.length g = true by simp [QaS, h0]]
   exact stT (beqT h0) bad
  refine stF (beqF h0) ?_
  by_cases hg : g = 0
  ·refine stT (beqT hg) ?_
   by_cases h9 : (ps.length : Int) > 9
   ·rw [show QaS ps.length g = true by simp [QaS, hg]; omega]
    exact stT (decT h9) bad
   refine stF (decF h9) ?_
   by_cases h99 : (ps.length : Int) + g > 99
   ·omega
   rw [show QaS ps.length g = false by simp [QaS]; omega]
   exact stF (decF h99) good
  ·refine stF (beqF hg) ?_
   by_cases h99 : (ps.length : Int) + g > 99
   ·rw [show QaS ps.length g = true by simp [QaS]; omega]
    exact stT (decT h99) bad
   rw [show QaS ps.length g = false by simp [QaS]; omega]
   exact stF (decF h99) good
theorem QuE (bn : Bool) (ps : List Pe) (grp i : Int) (l : List Fau) (hps : ps.length ≤ 1000000) (hl : l.length ≤ 800000) :
  Evt fun n => QiW lb n bn (ps.map peE) grp l.isEmpty (l.map fauE) i = some (QaV (l ++ QgQ ps grp)) := by
 unfold QgQ
 by_cases h0 : grp < 0
 ·have hb : Qc6 grp = true := by simp [Qc6, h0]
  refine (Qmg lb bn ps i (l ++ [(2, QaT)]) 0 hps (by simp; omega) (by omega) (by omega)).mono fun n h => ?_
  rw [Qgp]
  refine stT (decT h0) (stC (Qfv (by omega)) ?_)
  rw [Qey, Qeq l (2, [112, 97, 114, 116, 121]), hb]
  simpa [Qav, QaT] using h
 by_cases h1 : grp > 99
 ·have hb : Qc6 grp = true := by simp [Qc6, h1]
  refine (Qmg lb bn ps i (l ++ [(2, QaT)]) 0 hps (by simp; omega) (by omega) (by omega)).mono fun n h => ?_
  rw [Qgp]
  refine stF (decF h0) (stT (decT h1) (stC (Qfv (by omega)) ?_))
  rw [Qey, Qeq l (2, [112, 97, 114, 116, 121]), hb]
  simpa [Qav, QaT] using h
 ·have hb : Qc6 grp = false := by simp [Qc6]; omega
  refine (Qmg lb bn ps i l grp hps (by omega) (by omega) (by omega)).mono fun n h => ?_
  rw [Qgp]
  refine stF (decF h0) (stF (decF h1) ?_)
  rw [hb]
  simpa [Qav] using h
theorem QqM (bn : Bool) (ps : List Pe) (grp : Int) (hps : ps.length ≤ 100000) (hok : ∀ p ∈ ps, PeSm p) : Ret lb QaA [.list bn (ps.map peE), .int .i64 grp] (QaV (QaG ps grp)) := by
 have hlen : ∀ l : List Pe, (idxF perF 0 l).length ≤ 2 * l.length := fun l => QeW QnE l 0
 refine .top rfl ((Evt.diag (Qea (enc := peE) (l := ps) (P := fun p t n k => Qd5 lb n k bn (ps.map peE) grp (idxF perF 0 p).isEmpty ((idxF perF 0 p).map fauE) (p.length : Int) = some (QaV (QaG ps grp))) (by omega)
  ((QuE lb bn ps grp (ps.length : Int) (idxF perF 0 ps) (by omega) (by have := hlen ps; omega)).mono fun n h k => by
    rw [Qh3]
    exact stF (decF (by simp)) h)
  (fun p x t h h1 h2 h3 ih => by
   have hpl : p.length + (t.length + 1) = ps.length := by rw [← h]; simp
   have hx : PeSm x := hok x (by rw [← h]; simp)
   have hil := QeI (z := (p.length : Int)) (by omega) (by omega)
   have hF := hlen p
   refine Evt.imp2 (Evt.imp2 (Qq2 lb x hx) (Evt.imp2 (QqZ lb x hx) (Qgv lb (p.length : Int) (by omega) (by omega)) fun n a b => And.intro a b) fun n a b => And.intro a b) ih fun n ⟨c1, c2, c3⟩ hi k hk => ?_
   have hi := hi k hk
   rw [Qh3]
   refine stT (decT h1) (stO _ c3 (stO _ rfl (stC (decT (by simp; omega)) (stO _ h2 (stC rfl (stO _ rfl (stO _ rfl (stO _ rfl (stO _ c1 (stO _ (QaM _) ?_))))))))))
   rw [QeZ, Nat.zero_add] at hi
   rw [show perF p.length x = Qav (!Qen x) 5 (Qb0 ++ Lib.itoa (p.length : Int)) ++ Qav (!Qfz x) 8 (Qb0 ++ Lib.itoa (p.length : Int)) from rfl] at hi
   rw [← List.append_assoc] at hi
   refine (acc (!Qen x) (idxF perF 0 p) 5 (Qb0 ++ Lib.itoa (p.length : Int)) (by omega) (fun b l => Qgw lb n k bn (ps.map peE) grp (p.length : Int) (Lib.itoa (p.length : Int)) (.str (Lib.itoa (p.length : Int))) b l)).trans ?_
   rw [Qn5, h3]
   refine stO _ h2 (stC rfl (stO _ rfl (stO _ rfl (stO _ rfl (stO _ c2 (stO _ (QaM _) ?_))))))
   exact (acc (!Qfz x) (idxF perF 0 p ++ Qav (!Qen x) 5 (Qb0 ++ Lib.itoa (p.length : Int))) 8 (Qb0 ++ Lib.itoa (p.length : Int)) (by have := Qa8 (!Qen x) 5 (Qb0 ++ Lib.itoa (p.length : Int)); rw [List.length_append]; omega) (fun b l => Qd5 lb n k bn (ps.map peE) grp b l ((p ++ [x]).length : Int))).trans hi) ps [] rfl)).mono fun n h => by rw [Qrg]; exact h)
theorem Qvq (n yk : Nat) (aloc1 : List UInt8) (ja : Bool) (aper3 : List (List CV)) (je : Int) (jb : Bool) (aseg6 : List (List CV)) (jd : Bool) (aser9 : List (List CV)) (jc : Int) (jl : CV) (wp jP : Int) (s208 : List UInt8) (jk : Bool) (l17 : List (List CV)) (jg : CV) (jj : Bool × List (List CV)) (jn : CV) (c203 : List CV) (yP yM wW vh : CV) (x : Sv) (h7 : yM = .int .i64 x.pe) (h8 : wW = .int .i64 x.sg) (G : List Fau) (hG : G.length ≤ 999999) :
  Qeo lb n yk aloc1 ja aper3 je jb aseg6 jd aser9 jc jl wp jP s208 jk l17 jg jj jn c203 yP yM wW vh G.isEmpty (G.map fauE) = QbN lb n yk aloc1 ja aper3 je jb aseg6 jd aser9 jc jl wp jk l17 jg jj jn (G ++ Qav (Qho aper3.length aseg6.length x) 7 (Qbw ++ s208)).isEmpty ((G ++ Qav (Qho aper3.length aseg6.length x) 7 (Qbw ++ s208)).map fauE) (IntKind.wrap .i64 (jP + 1)) := by
 subst h7; subst h8
 have hT := accT G 7 (Qbw ++ s208) hG (fun b l => QbN lb n yk aloc1 ja aper3 je jb aseg6 jd aser9 jc jl wp jk l17 jg jj jn b l (IntKind.wrap .i64 (jP + 1)))
 have hF := accF G 7 (Qbw ++ s208) (fun b l => QbN lb n yk aloc1 ja aper3 je jb aseg6 jd aser9 jc jl wp jk l17 jg jj jn b l (IntKind.wrap .i64 (jP + 1)))
 rw [QnO]
 unfold Qho
 refine stO _ (QaK ..) ?_
 cases decide (x.pe < 0) with
 | true => exact stT rfl hT
 | false =>
  refine stF rfl (stO _ (QaK ..) ?_)
  cases decide (x.pe ≥ (aper3.length : Int)) with
  | true => exact stT rfl hT
  | false =>
   refine stF rfl (stO _ (QaK ..) ?_)
   cases decide (x.sg < 0) with
   | true => exact stT rfl hT
   | false =>
    refine stF rfl (stO _ (QaK ..) ?_)
    cases decide (x.sg ≥ (aseg6.length : Int)) with
    | true => exact stT rfl hT
    | false => exact stF rfl hF
theorem Qwy (n : Nat) (aloc1 : List UInt8) (ja : Bool) (aper3 : List (List CV)) (je : Int) (jb : Bool) (aseg6 : List (List CV)) (jd : Bool) (aser9 : List (List CV)) (jc : Int) (jl : CV) (jk : Bool) (l17 : List (List CV)) (jg : CV) (jj : Bool × List (List CV)) (jn : CV) (wp : Int) (svs : List Sv) (h9 : aser9 = svs.map svE) (hl : svs.length ≤ 100000) (hok : ∀ x ∈ svs, x.cd.length ≤ 281474976710656) (F : List Fau) (hF : F.length ≤ 500000) :
  Evt fun n => QiX lb n aloc1 ja aper3 je jb aseg6 jd aser9 jc jl jk l17 jg jj jn F.isEmpty (F.map fauE) wp = some (QaV (F ++ idxF (svF aper3.length aseg6.length) 0 svs)) := by
 subst h9
 have hlen : ∀ l : List Sv, (idxF (svF aper3.length aseg6.length) 0 l).length ≤ 2 * l.length := fun l => QeW (Qtw _ _) l 0
 refine (Evt.diag (Qea (enc := svE) (l := svs) (P := fun p t n k => QbN lb n k aloc1 ja aper3 je jb aseg6 jd (svs.map svE) jc jl wp jk l17 jg jj jn (F ++ idxF (svF aper3.length aseg6.length) 0 p).isEmpty ((F ++ idxF (svF aper3.length aseg6.length) 0 p).map fauE) (p.length : Int) = some (QaV (F ++ idxF (svF aper3.length aseg6.length) 0 svs))) (by omega)
  (.all fun n k => by
   rw [Qib]
   refine stF (decF (by simp)) ?_
   rw [QnI]
   rfl)
  (fun p x t h h1 h2 h3 ih => by
   have hpl : p.length + (t.length + 1) = svs.length := by rw [← h]; simp
   have hx := hok x (by rw [← h]; simp)
   have hil := QeI (z := (p.length : Int)) (by omega) (by omega)
   have hP := hlen p
   refine Evt.imp2 (Evt.imp2 (Qgg lb x.cd 4 4 hx) (Qgv lb (p.length : Int) (by omega) (by omega)) fun n a b => And.intro a b) ih fun n ⟨c1, c2⟩ hi k hk => ?_
   have hi := hi k hk
   rw [Qib]
   refine stT (decT h1) (stO _ h2 (stC rfl (stO _ rfl (stO _ rfl (stO _ rfl (stO _ c2 (stO _ rfl (stC (decT (by simp; omega)) (stO _ c1 (stO _ (QaM _) ?_))))))))))
   refine (acc (!QbY x.cd 4 4) (F ++ idxF (svF aper3.length aseg6.length) 0 p) 5 (Qbw ++ Lib.itoa (p.length : Int)) (by simp; omega) (fun b l => Qeo lb n k aloc1 ja aper3 je jb aseg6 jd (svs.map svE) jc jl wp (p.length : Int) (Lib.itoa (p.length : Int)) jk l17 jg jj jn (svE x) (.str x.cd) (.int .i64 x.pe) (.int .i64 x.sg) (.str (Lib.itoa (p.length : Int))) b l)).trans ?_
   refine (Qvq (x := x) (h7 := rfl) (h8 := rfl) (hG := by
    have := Qa8 (!QbY x.cd 4 4) 5 (Qbw ++ Lib.itoa (p.length : Int))
    rw [List.length_append, List.length_append]; omega) ..).trans ?_
   rw [h3]
   rw [QeZ, Nat.zero_add] at hi
   rw [show svF aper3.length aseg6.length p.length x = Qav (!QbY x.cd 4 4) 5 (Qbw ++ Lib.itoa (p.length : Int)) ++ Qav (Qho aper3.length aseg6.length x) 7 (Qbw ++ Lib.itoa (p.length : Int)) from rfl] at hi
   simp only [List.append_assoc] at hi ⊢
   exact hi) svs [] rfl)).mono fun n h => by
   rw [Qoe]
   have e : F ++ idxF (svF aper3.length aseg6.length) 0 ([] : List Sv) = F := List.append_nil F
   rw [e] at h
   exact h
theorem Qtm (n yv : Nat) (aloc1 : List UInt8) (ja : Bool) (aper3 : List (List CV)) (je : Int) (jb : Bool) (aseg6 : List (List CV)) (jd : Bool) (aser9 : List (List CV)) (jc : Int) (jl : CV) (ye : Int) (yg : CV) (jk : Bool) (l17 : List (List CV)) (jg : CV) (jj : Bool × List (List CV)) (jn : CV) (c99 : List CV) (jv jt wF ju jr js jD jC jB yS : CV) (m : Nat) (h63 : ye = (m : Int)) (hm : m ≤ 1000000) (er : List Int) (hr : yg = errV er) (her : er.length ≤ 10) (F : List Fau) (hF : F.length ≤ 900000) (hdec : C lb n QdA [.int .i64 ye] = some (.str (Lib.itoa (m : Int)))) : ∀ (t p : List Int), p ++ t = er → ∀ k, t.length < k →
  Qe0 lb n k yv aloc1 ja aper3 je jb aseg6 jd aser9 jc jl ye yg jk l17 jg jj jn c99 jv jt wF ju jr js jD jC jB yS (F ++ p.map fun e => (e, segS ++ Lib.itoa (m : Int))).isEmpty ((F ++ p.map fun e => (e, segS ++ Lib.itoa (m : Int))).map fauE) (p.length : Int) = QeO lb n yv aloc1 ja aper3 je jb aseg6 jd aser9 jc jl jk l17 jg jj jn (F ++ er.map fun e => (e, segS ++ Lib.itoa (m : Int))).isEmpty ((F ++ er.map fun e => (e, segS ++ Lib.itoa (m : Int))).map fauE) (IntKind.wrap .i64 (ye + 1))
 | [], p, h, k, hk => by
  obtain ⟨k, rfl⟩ : ∃ j, k = j + 1 := ⟨k - 1, by simp at hk; omega⟩
  have hpe : p = er := by simpa using h
  subst hpe; subst hr
  rw [Qh2]
  refine stO _ rfl (stF (decF (by simp)) ?_)
  rw [QoY]
 | e :: t, p, h, k, hk => by
  obtain ⟨k, rfl⟩ : ∃ j, k = j + 1 := ⟨k - 1, by simp at hk; omega⟩
  have hpl : p.length + (t.length + 1) = er.length := by rw [← h]; simp
  have hil := QeI (z := (m : Int)) (by omega) (by omega)
  have hw : IntKind.wrap .i64 ((p.length : Int) + 1) = ((p ++ [e]).length : Int) := by rw [QaB (by omega) (by omega)]; simp
  have hat : atL (er.map icv) (p.length : Int) = some (icv e) := Qbz (by rw [List.getElem?_map, ← h]; simp)
  have ih := Qtm n yv aloc1 ja aper3 je jb aseg6 jd aser9 jc jl ye yg jk l17 jg jj jn c99 jv jt wF ju jr js jD jC jB yS m h63 hm er hr her F hF hdec t (p ++ [e]) (by rw [← h]; simp) k (by simp at hk; omega)
  have hFl : (F ++ p.map fun e => (e, segS ++ Lib.itoa (m : Int))).length ≤ 999999 := by rw [List.length_append, List.length_map]; omega
  subst hr
  rw [Qh2]
  refine stO _ rfl (stT (decT (by simp; omega)) (stO _ rfl (stO _ hat (stC rfl (stO _ rfl (stO _ hdec (stO _ rfl (stC (decT (by simp; omega)) (stC rfl ?_)))))))))
  refine (accT (F ++ p.map fun e => (e, segS ++ Lib.itoa (m : Int))) e (segS ++ Lib.itoa (m : Int)) hFl (fun b l => Qe0 lb n k yv aloc1 ja aper3 je jb aseg6 jd aser9 jc jl ye (errV er) jk l17 jg jj jn c99 jv jt wF ju jr js jD jC jB yS b l (IntKind.wrap .i64 ((p.length : Int) + 1)))).trans ?_
  rw [hw]
  rw [List.map_append, ← List.append_assoc] at ih
  exact ih
theorem Qwv (n : Nat) (aloc1 : List UInt8) (ja : Bool) (aper3 : List (List CV)) (je : Int) (jb : Bool) (aseg6 : List (List CV)) (jd : Bool) (aser9 : List (List CV)) (jc : Int) (jl : CV) (jk : Bool) (l17 : List (List CV)) (jg : CV) (jj : Bool × List (List CV)) (jn : CV) (segs : List Sg) (h6 : aseg6 = segs.map sgE) (hs : segs.length ≤ 1000) (hsok : ∀ s ∈ segs, (s.car.length ≤ 281474976710656 ∧ s.fr.length ≤ 281474976710656 ∧ s.to.length ≤ 281474976710656) ∧ s.cls.length ≤ 281474976710656) (svs : List Sv) (h9 : aser9 = svs.map svE) (hl : svs.length ≤ 100000) (hok : ∀ x ∈ svs, x.cd.length ≤ 281474976710656) (F : List Fau) (hF : F.length ≤ 400000) :
  Evt fun n => QeV lb n aloc1 ja aper3 je jb aseg6 jd aser9 jc jl jk l17 jg jj jn F.isEmpty (F.map fauE) = some (QaV ((F ++ idxF segF 0 segs) ++ idxF (svF aper3.length aseg6.length) 0 svs)) := by
 have hlen : ∀ l : List Sg, (idxF segF 0 l).length ≤ 4 * l.length := fun l => QeW Qr3 l 0
 have h8 := Qwy lb 0 aloc1 ja aper3 je jb aseg6 jd aser9 jc jl jk l17 jg jj jn (segs.length : Int) svs h9 hl hok (F ++ idxF segF 0 segs) (by have := hlen segs; rw [List.length_append]; omega)
 subst h6
 refine (Evt.diag (Qea (enc := sgE) (l := segs) (P := fun p t n k => QeO lb n k aloc1 ja aper3 je jb (segs.map sgE) jd aser9 jc jl jk l17 jg jj jn (F ++ idxF segF 0 p).isEmpty ((F ++ idxF segF 0 p).map fauE) (p.length : Int) = some (QaV ((F ++ idxF segF 0 segs) ++ idxF (svF aper3.length (segs.map sgE).length) 0 svs))) (by omega)
  (h8.mono fun n h k => by
   rw [Qh9]
   exact stF (decF (by simp)) h)
  (fun p x t h h1 h2 h3 ih => by
   have hpl : p.length + (t.length + 1) = segs.length := by rw [← h]; simp
   have hx := hsok x (by rw [← h]; simp)
   have hP := hlen p
   refine Evt.imp2 (Evt.imp2 (QvD lb x hx.2 hx.1.1 hx.1.2.1 hx.1.2.2) (Evt.imp2 (Qgv lb (p.length : Int) (by omega) (by omega)) (Evt.ge 6) fun n a b => And.intro a b) fun n a b => And.intro a b) ih fun n ⟨c1, c2, c3⟩ hi k hk => ?_
   have hi := hi k hk
   rw [Qh9]
   refine stT (decT h1) (stO _ h2 (stC rfl (stO _ rfl (stO _ rfl (stO _ rfl (stO _ rfl (stO _ rfl (stO _ rfl (stO _ rfl (stO _ rfl (stO _ rfl (stO _ rfl (stO _ c1 ?_)))))))))))))
   have hL := Qtm (lb := lb) (n := n) (yv := k) (m := p.length) (ye := (p.length : Int)) (h63 := rfl) (hm := by omega) (er := QcN x) (yg := errV (QcN x)) (hr := rfl) (her := by have := Qgx x; omega) (F := F ++ idxF segF 0 p) (hF := by rw [List.length_append]; omega) (hdec := c2) (aloc1 := aloc1) (ja := ja) (aper3 := aper3) (je := je) (jb := jb) (aseg6 := segs.map sgE) (jd := jd) (aser9 := aser9) (jc := jc) (jl := jl) (jk := jk) (l17 := l17) (jg := jg) (jj := jj) (jn := jn) (c99 := sgE x) (jv := .str x.car) (jt := .int .i64 x.num) (wF := .int .i64 x.day) (ju := .str x.fr) (jr := .str x.to) (js := .int .i64 x.dep) (jD := .int .i64 x.arr) (jC := .str x.cls) (jB := .int .i64 x.st) (yS := .int .i64 x.mar) (QcN x) [] rfl n (by have := Qgx x; omega)
   rw [List.map_nil, List.append_nil, h3] at hL
   refine Eq.trans hL ?_
   rw [QeZ, Nat.zero_add] at hi
   rw [show segF p.length x = (QcN x).map (fun e => (e, segS ++ Lib.itoa (p.length : Int))) from rfl] at hi
   rw [List.append_assoc]
   exact hi) segs [] rfl)).mono fun n h => by
   rw [QoS]
   have e : F ++ idxF segF 0 ([] : List Sg) = F := List.append_nil F
   rw [e] at h
   exact h
theorem Qs2 (s : Bs) (hs : s.length ≤ 281474976710656) : Ret lb Qh0 [.str s] (.bool (QbY s 6 6)) :=
 .top rfl ((Qgg lb s 6 6 hs).mono fun n h => by
  rw [QpR]
  exact stO _ h rfl)
def QkV (b : Bk) : List Fau := QoX b.loc b.ps b.grp b.segs b.svs b.lim
theorem QqS (b : Bk) (hloc : b.loc.length ≤ 281474976710656) (hps : b.ps.length ≤ 1000) (hpok : ∀ p ∈ b.ps, PeSm p) (hs : b.segs.length ≤ 1000) (hsok : ∀ s ∈ b.segs, (s.car.length ≤ 281474976710656 ∧ s.fr.length ≤ 281474976710656 ∧ s.to.length ≤ 281474976710656) ∧ s.cls.length ≤ 281474976710656) (hl : b.svs.length ≤ 100000) (hok : ∀ x ∈ b.svs, x.cd.length ≤ 281474976710656) :
  Ret lb Qak [.agg (bkE b)] (QaV (QkV b)) := by
 have hmm : (mars b.segs).length ≤ 1000 := by simpa [mars] using hs
 have hpl := Qts b.ps b.grp
 have h3 : ∀ F : List Fau, F.length ≤ 300000 → ∀ jk l17 jg jj, Evt fun n => Qdu lb n b.loc b.pn (b.ps.map peE) b.grp b.bn (b.segs.map sgE) b.rn (b.svs.map svE) b.lim jk l17 jg jj F.isEmpty (F.map fauE) = some (QaV (((F ++ Qav (marE (mars b.segs) != 0) (marE (mars b.segs)) QbZ) ++ idxF segF 0 b.segs) ++ idxF (svF b.ps.length b.segs.length) 0 b.svs)) := fun F hF jk l17 jg jj => by
  have h4 := Qwv lb 0 b.loc b.pn (b.ps.map peE) b.grp b.bn (b.segs.map sgE) b.rn (b.svs.map svE) b.lim (.int .i64 (marE (mars b.segs))) jk l17 jg jj (.list b.segs.isEmpty ((mars b.segs).map icv)) b.segs rfl hs hsok b.svs rfl hl hok (F ++ Qav (marE (mars b.segs) != 0) (marE (mars b.segs)) QbZ) (by
   have := Qa8 (marE (mars b.segs) != 0) (marE (mars b.segs)) QbZ
   rw [List.length_append]; omega)
  rw [List.length_map, List.length_map] at h4
  refine Evt.imp2 (Evt.imp2 (Qpg lb b (by omega)) (Qrc lb b.segs.isEmpty (mars b.segs) (by omega)) fun n x y => And.intro x y) h4 fun n ⟨c1, c2⟩ h => ?_
  rw [QoH]
  refine stO _ c1 (stO _ c2 (stO _ (QaK ..) ?_))
  exact (acc (marE (mars b.segs) != 0) F (marE (mars b.segs)) QbZ (by omega) (fun q l => QeV lb n b.loc b.pn (b.ps.map peE) b.grp b.bn (b.segs.map sgE) b.rn (b.svs.map svE) b.lim (.int .i64 (marE (mars b.segs))) jk l17 jg jj (.list b.segs.isEmpty ((mars b.segs).map icv)) q l)).trans h
 have h2 : ∀ F : List Fau, F.length ≤ 10 → Evt fun n => Qdq lb n b.loc b.pn (b.ps.map peE) b.grp b.bn (b.segs.map sgE) b.rn (b.svs.map svE) b.lim F.isEmpty (F.map fauE) = some (QaV (((((F ++ QaG b.ps b.grp) ++ Qav (decide ((b.segs.length : Int) > 24)) 4 QbZ) ++ Qav (marE (mars b.segs) != 0) (marE (mars b.segs)) QbZ) ++ idxF segF 0 b.segs) ++ idxF (svF b.ps.length b.segs.length) 0 b.svs)) := fun F hF => by
  have h4 := h3 ((F ++ QaG b.ps b.grp) ++ Qav (decide ((b.segs.length : Int) > 24)) 4 QbZ) (by
   have := Qa8 (decide ((b.segs.length : Int) > 24)) 4 QbZ
   simp only [List.length_append]; omega) F.isEmpty (F.map fauE) (QaV (QaG b.ps b.grp)) ((QaG b.ps b.grp).isEmpty, (QaG b.ps b.grp).map fauE)
  refine Evt.imp2 (QqM lb b.pn b.ps b.grp (by omega) hpok) h4 fun n c1 h => ?_
  rw [QoM]
  refine stO _ c1 (stO _ rfl (stC (by simp [fauE]) (stC (Qer (by simp; omega)) ?_)))
  have e0 : ∀ a b : List Fau, (a.isEmpty && (b.map fauE).isEmpty) = (a ++ b).isEmpty := fun a b => by cases a <;> cases b <;> rfl
  have e1 := e0 F (QaG b.ps b.grp)
  have e2 : F.map fauE ++ (QaG b.ps b.grp).map fauE = (F ++ QaG b.ps b.grp).map fauE := by simp
  show (bif decide ((((b.segs.map sgE).length : Nat) : Int) > 24) then chkO (room ((F.map fauE ++ (QaG b.ps b.grp).map fauE).length + 1) 24) (Qdu lb n b.loc b.pn (b.ps.map peE) b.grp b.bn (b.segs.map sgE) b.rn (b.svs.map svE) b.lim F.isEmpty (F.map fauE) (QaV (QaG b.ps b.grp)) ((QaG b.ps b.grp).isEmpty, (QaG b.ps b.grp).map fauE) ((F.isEmpty && ((QaG b.ps b.grp).map fauE).isEmpty) && false) ((F.map fauE ++ (QaG b.ps b.grp).map fauE) ++ [[CV.int .i64 4, CV.str QbZ]])) else Qdu lb n b.loc b.pn (b.ps.map peE) b.grp b.bn (b.segs.map sgE) b.rn (b.svs.map svE) b.lim F.isEmpty (F.map fauE) (QaV (QaG b.ps b.grp)) ((QaG b.ps b.grp).isEmpty, (QaG b.ps b.grp).map fauE) (F.isEmpty && ((QaG b.ps b.grp).map fauE).isEmpty) (F.map fauE ++ (QaG b.ps b.grp).map fauE)) = _
  rw [e1, e2, List.length_map]
  exact (acc (decide ((b.segs.length : Int) > 24)) (F ++ QaG b.ps b.grp) 4 QbZ (by rw [List.length_append]; omega) (fun q l => Qdu lb n b.loc b.pn (b.ps.map peE) b.grp b.bn (b.segs.map sgE) b.rn (b.svs.map svE) b.lim F.isEmpty (F.map fauE) (QaV (QaG b.ps b.grp)) ((QaG b.ps b.grp).isEmpty, (QaG b.ps b.grp).map fauE) q l)).trans h
 have h1 : ∀ F : List Fau, F.length ≤ 9 → Evt fun n => r35_Check_J1 lb n b.loc b.pn (b.ps.map peE) b.grp b.bn (b.segs.map sgE) b.rn (b.svs.map svE) b.lim F.isEmpty (F.map fauE) = some (QaV ((((((F ++ Qav (Qgn b.lim) 13 QeP) ++ QaG b.ps b.grp) ++ Qav (decide ((b.segs.length : Int) > 24)) 4 QbZ) ++ Qav (marE (mars b.segs) != 0) (marE (mars b.segs)) QbZ) ++ idxF segF 0 b.segs) ++ idxF (svF b.ps.length b.segs.length) 0 b.svs)) := fun F hF => by
  refine (h2 (F ++ Qav (Qgn b.lim) 13 QeP) (by
   have := Qa8 (Qgn b.lim) 13 QeP
   rw [List.length_append]; omega)).mono fun n h => ?_
  have hT := accT F 13 QeP (by omega) (fun q m => Qdq lb n b.loc b.pn (b.ps.map peE) b.grp b.bn (b.segs.map sgE) b.rn (b.svs.map svE) b.lim q m)
  have hN := accF F 13 QeP (fun q m => Qdq lb n b.loc b.pn (b.ps.map peE) b.grp b.bn (b.segs.map sgE) b.rn (b.svs.map svE) b.lim q m)
  rw [Qot]
  unfold Qgn at h ⊢
  cases h0 : decide (b.lim < 0) with
  | true => rw [h0] at h; exact stT rfl (hT.trans h)
  | false =>
   rw [h0] at h
   refine stF rfl ?_
   cases h9 : decide (b.lim ≥ 52596000) with
   | true => rw [h9] at h; exact stT rfl (hT.trans h)
   | false => rw [h9] at h; exact stF rfl (hN.trans h)
 refine .top rfl (Evt.imp2 (Qs2 lb b.loc hloc) (h1 (Qav (!QbY b.loc 6 6) 5 Qis) (by have := Qa8 (!QbY b.loc 6 6) 5 Qis; omega)) fun n c h => ?_)
 rw [show top lb n Qak [.agg (bkE b)] = _ from Qr1 lb n b.loc b.pn (b.ps.map peE) b.grp b.bn (b.segs.map sgE) b.rn (b.svs.map svE) b.lim]
 refine stO _ c (stO _ (QaM _) ?_)
 unfold QkV QoX
 cases hc : QbY b.loc 6 6 with
 | true => rw [hc] at h; exact stF rfl h
 | false => rw [hc] at h; exact stT rfl h
end Go.Proofs
