/- Chapter 35: the reference's check of a booking gives the same violations. Conditions: as each says. -/
import Derived.Test.YtigmcfhmpcajlaaGreatDoorCq
import Derived.Test.YtigmcfhmpcajlaaGreatDoorBD
import Derived.Test.YtigmcfhmpcajlaaGreatDoorGx
set_option linter.unusedSimpArgs false
set_option linter.unusedVariables false
namespace Go.Proofs
open Go.Am
variable (lb : Nat)
theorem Qre (bn : Bool) (l : List Int) (hl : l.length ≤ 1000000) (i : Int) (h0 : 0 ≤ i) (h1 : i < (l.length : Int)) : Ret lb Qdv [.list bn (l.map icv), .int .i64 i] (.bool (Qgl l i)) := by
 refine .top rfl (.all fun n => ?_)
 have hlen : (((l.map icv).length : Nat) : Int) = (l.length : Int) := by simp
 have w1 : IntKind.wrap .i64 (i - 1) = i - 1 := Qaw (by omega) (by omega)
 have w2 : IntKind.wrap .i64 (i + 1) = i + 1 := Qaw (by omega) (by omega)
 have ai := QeX h0 h1
 rw [Qoh, w1, w2, hlen]
 unfold Qgl
 by_cases hi : i > 0
 ·have am := QeX (l := l) (i := i - 1) (by omega) (by omega)
  refine stT (decT hi) (stO _ am (stC rfl (stO _ rfl (stO _ ai (stC rfl (stO _ rfl (stO _ (Qas ..) (stO _ (Qas ..) ?_))))))))
  rw [decT hi]
  cases he : nthI l (i - 1) == nthI l i with
  | true => exact stT rfl rfl
  | false =>
   refine stF rfl ?_
   by_cases hj : i + 1 < (l.length : Int)
   ·have ap := QeX (l := l) (i := i + 1) (by omega) hj
    rw [decT hj]
    exact stT rfl (stO _ ap (stC rfl (stO _ rfl (stO _ ai (stC rfl (stO _ rfl (stO _ (Qas ..) (stO _ (Qas ..) rfl))))))))
   ·rw [decF hj]
    exact stF rfl rfl
 ·refine stF (decF hi) ?_
  rw [decF hi]
  by_cases hj : i + 1 < (l.length : Int)
  ·have ap := QeX (l := l) (i := i + 1) (by omega) hj
   rw [decT hj]
   exact stT rfl (stO _ ap (stC rfl (stO _ rfl (stO _ ai (stC rfl (stO _ rfl (stO _ (Qas ..) (stO _ (Qas ..) rfl))))))))
  ·rw [decF hj]
   exact stF rfl rfl
theorem QuQ (n yQ : Nat) (bn : Bool) (l : List Int) (ww : Int) (hl : l.length ≤ 1000000) (i : Nat) (hi : i < l.length) : ∀ (d j : Nat), (j + d = l.length ∨ (d = 0 ∧ l.length ≤ j ∧ j ≤ 1000002)) → i + 2 ≤ j → ∀ k, d < k →
  Qdf lb n k yQ bn (l.map icv) ww ((i : Nat) : Int) (j : Int) = if (decide (nthI l (i : Int) > 0) && Qgg l (i : Int) j d) = true then some (.int .i64 18) else Qeu lb n yQ bn (l.map icv) ww (IntKind.wrap .i64 ((i : Int) + 1))
 | 0, j, h, hj, k, hk => by
  obtain ⟨k, rfl⟩ : ∃ m, k = m + 1 := ⟨k - 1, by omega⟩
  rw [QhU]
  refine stF (decF (by simp; omega)) ?_
  rw [Qpv]
  simp [Qgg]
 | d + 1, j, h, hj, k, hk => by
  obtain ⟨k, rfl⟩ : ∃ m, k = m + 1 := ⟨k - 1, by omega⟩
  have hw : IntKind.wrap .i64 ((j : Int) + 1) = ((j + 1 : Nat) : Int) := by rw [Qaw (by omega) (by omega)]; omega
  have hw1 : IntKind.wrap .i64 ((j : Int) - 1) = (j : Int) - 1 := Qaw (by omega) (by omega)
  have ih := QuQ n yQ bn l ww hl i hi d (j + 1) (.inl (by omega)) (by omega) k (by omega)
  have ai := QeX (l := l) (i := (i : Int)) (by omega) (by omega)
  have aj := QeX (l := l) (i := (j : Int)) (by omega) (by omega)
  have am := QeX (l := l) (i := (j : Int) - 1) (by omega) (by omega)
  rw [QhU, hw, hw1]
  refine stT (decT (by simp; omega)) (stO _ ai (stC rfl (stO _ rfl (stO _ (Qas ..) ?_))))
  cases hp : decide (nthI l (i : Int) > 0) with
  | false =>
   rw [hp] at ih
   refine stF rfl (ih.trans ?_)
   simp
  | true =>
   rw [hp] at ih
   refine stT rfl (stO _ aj (stC rfl (stO _ rfl (stO _ ai (stC rfl (stO _ rfl (stO _ (Qas ..) (stO _ (Qas ..) ?_))))))))
   unfold Qgg
   cases he : nthI l (j : Int) == nthI l (i : Int) with
   | false => exact stF rfl (ih.trans (by simp))
   | true =>
    refine stT rfl (stO _ am (stC rfl (stO _ rfl (stO _ ai (stC rfl (stO _ rfl (stO _ (Qas ..) (stO _ (Qas ..) ?_))))))))
    cases hq : nthI l ((j : Int) - 1) != nthI l (i : Int) with
    | true => exact stT rfl (by simp)
    | false => exact stF rfl (ih.trans (by simp))
theorem Qu4 (n : Nat) (bn : Bool) (l : List Int) (ww : Int) (hl : l.length ≤ 1000000) (hn : l.length < n) (hN : ∀ i ∈ upTo l.length, C lb n Qdv [.list bn (l.map icv), .int .i64 i] = some (.bool (Qgl l i))) : ∀ (d i : Nat), i + d = l.length → ∀ k, d < k →
  Qeu lb n k bn (l.map icv) ww (i : Int) = some (.int .i64 (if badR l i d then 18 else 0))
 | 0, i, h, k, hk => by
  obtain ⟨k, rfl⟩ : ∃ m, k = m + 1 := ⟨k - 1, by omega⟩
  rw [Qh7]
  refine stF (decF (by simp; omega)) ?_
  rw [Qpy]; rfl
 | d + 1, i, h, k, hk => by
  obtain ⟨k, rfl⟩ : ∃ m, k = m + 1 := ⟨k - 1, by omega⟩
  have hw : IntKind.wrap .i64 ((i : Int) + 1) = ((i + 1 : Nat) : Int) := by rw [Qaw (by omega) (by omega)]; omega
  have hw2 : IntKind.wrap .i64 ((i : Int) + 2) = ((i + 2 : Nat) : Int) := by rw [Qaw (by omega) (by omega)]; omega
  have ih := Qu4 n bn l ww hl hn hN d (i + 1) (by omega) k (by omega)
  have ai := QeX (l := l) (i := (i : Int)) (by omega) (by omega)
  have h4 := QuQ lb n k bn l ww hl i (by omega) (l.length - (i + 2)) (i + 2) (by omega) (by omega) n (by omega)
  rw [hw, ih] at h4
  rw [Qh7, hw2]
  refine stT (decT (by simp; omega)) (stO _ ai (stC rfl (stO _ rfl (stO _ (Qas ..) ?_))))
  unfold badR
  cases hp : decide (nthI l (i : Int) > 0) with
  | false =>
   rw [hp] at h4
   exact stF rfl (h4.trans (by simp))
  | true =>
   rw [hp] at h4
   refine stT rfl (stO _ (hN (i : Int) (Qet.2 ⟨by omega, by omega⟩)) (stO _ (Qau _) ?_))
   cases hb : Qgl l (i : Int) with
   | false => exact stT rfl (by simp)
   | true =>
    refine stF rfl (h4.trans ?_)
    cases Qgg l (i : Int) (i + 2) (l.length - (i + 2)) <;> simp
theorem Qrn (bn : Bool) (l : List Int) (hl : l.length ≤ 1000000) : Ret lb Qaq [.list bn (l.map icv)] (.int .i64 (marE l)) := by
 rw [← QwT]
 have hN : Evt fun n => ∀ i ∈ upTo l.length, C lb n Qdv [.list bn (l.map icv), .int .i64 i] = some (.bool (Qgl l i)) := Evt.fin (upTo l.length) fun i hi => Qre lb bn l hl i (Qet.1 hi).1 (Qet.1 hi).2
 refine .top rfl ((Evt.diag (Qen (enc := icv) (l := l) (P := fun p t n k => Qf8 lb n k bn (l.map icv) (p.length : Int) = some (.int .i64 (if t.any (fun x => decide (x < 0)) then 2 else if badR l 0 l.length then 18 else 0))) (by omega)
  (Evt.imp2 hN (Evt.ge (l.length + 1)) fun n h1 h2 k => by
   rw [QhT]
   refine stF (decF (by simp)) ?_
   rw [QpB]
   exact Qu4 lb n bn l _ hl (by omega) h1 l.length 0 (by omega) n (by omega))
  (fun p y t h h1 h2 h3 ih => ih.mono fun n hi k hk => by
   rw [QhT, List.any_cons]
   refine stT (decT h1) (stO _ h2 (stC rfl (stO _ rfl (stO _ (Qas ..) ?_))))
   cases hy : decide (y < 0) with
   | true => exact stT rfl rfl
   | false =>
    refine stF rfl ?_
    rw [h3, hi k hk]
    rfl) l [] rfl)).mono fun n h => by rw [QrU]; exact h)
theorem QoE (b : Bk) (hl : b.segs.length ≤ 1000000) : Ret lb Qba [.agg (bkE b)] (.list b.segs.isEmpty ((mars b.segs).map icv)) :=
 .top rfl ((Evt.diag (Qen (enc := sgE) (l := b.segs) (P := fun p t n k => QeU lb n k b.loc b.pn (b.ps.map peE) b.grp b.bn (b.segs.map sgE) b.rn (b.svs.map svE) b.lim p.isEmpty ((mars p).map icv) (p.length : Int) = some (.list b.segs.isEmpty ((mars b.segs).map icv))) (by omega)
  (.all fun n k => by
   rw [QgF]
   refine stF (decF (by simp)) ?_
   rw [Qnc])
  (fun p x t h h1 h2 h3 ih => ih.mono fun n hi k hk => by
   have hpl : p.length + (t.length + 1) = b.segs.length := by rw [← h]; simp
   rw [QgF]
   refine stT (decT h1) (stO _ h2 (stC rfl (stO _ rfl (stC rfl (stC (Qb6 (by simp [mars]; omega)) ?_)))))
   rw [h3]
   have := hi k hk
   have e : (p.isEmpty && false) = (p ++ [x]).isEmpty := by simp
   rw [e]
   simpa [mars, icv] using this) b.segs [] rfl)).mono fun n h => by
   rw [show top lb n Qba [.agg (bkE b)] = _ from Qp9 lb n b.loc b.pn (b.ps.map peE) b.grp b.bn (b.segs.map sgE) b.rn (b.svs.map svE) b.lim]
   exact h)
theorem Qq7 : Ret lb QjC [] (.list false [[CV.str []], [CV.str [72, 75]], [CV.str [72, 76]], [CV.str [75, 76]], [CV.str [84, 75]], [CV.str [85, 78]], [CV.str [85, 67]], [CV.str [88, 88]]]) := .top rfl (.all fun n => QrH lb n)
theorem QrB (x : Int) : Ret lb QkQ [.int .i64 x] (Qil x) :=
 .top rfl ((Qq7 lb).mono fun n h => by
  rw [Qte]
  unfold Qil
  by_cases h1 : x ≤ 0
  ·have : stOk x = false := by simp [stOk]; omega
   rw [this]
   exact stT (decT h1) rfl
  ·by_cases h2 : x > 7
   ·have : stOk x = false := by simp [stOk]; omega
    rw [this]
    exact stF (decF h1) (stT (decT h2) rfl)
   ·have h3 : x = 1 ∨ x = 2 ∨ x = 3 ∨ x = 4 ∨ x = 5 ∨ x = 6 ∨ x = 7 := by omega
    refine stF (decF h1) (stF (decF h2) (stO _ h (stO _ rfl ?_)))
    rcases h3 with rfl | rfl | rfl | rfl | rfl | rfl | rfl <;> exact stO _ rfl (stC rfl (stO _ rfl rfl)))
theorem Qxm (s : Sg) (l : List Int) (hl : l.length ≤ 3) : Evt fun n => QeY lb n s.car s.num s.day s.fr s.to s.dep s.arr s.cls s.st s.mar l.isEmpty (l.map icv) = some (errV (l ++ Qbj (stOk s.st) 10)) :=
 (QrB lb s.st).mono fun n h => by
  rw [Qm3]
  refine stO _ h ?_
  unfold Qil
  cases stOk s.st with
  | true =>
   refine stO _ rfl (stO _ rfl (stO _ rfl (stO _ rfl (stO _ rfl (stF rfl ?_)))))
   show _ = some (errV (l ++ []))
   rw [List.append_nil]; rfl
  | false =>
   refine stO _ rfl (stO _ rfl (stO _ rfl (stO _ rfl (stO _ rfl (stT rfl (stC (Qha (by omega)) ?_))))))
   rw [Qih, Qii l 10]; rfl
theorem Qxl (s : Sg) (hc : s.cls.length ≤ 281474976710656) (l : List Int) (hl : l.length ≤ 2) : Evt fun n => Qc8 lb n s.car s.num s.day s.fr s.to s.dep s.arr s.cls s.st s.mar l.isEmpty (l.map icv) = some (errV ((l ++ Qbj (QcU s.cls) 16) ++ Qbj (stOk s.st) 10)) := by
 refine Evt.imp2 (Qra lb s.cls hc) (Qxm lb s (l ++ Qbj (QcU s.cls) 16) (by unfold Qbj; cases QcU s.cls <;> simp <;> omega)) fun n h h3 => ?_
 rw [Qm8]
 refine stO _ h (stO _ (Qau _) ?_)
 cases hc : QcU s.cls with
 | true =>
  rw [hc] at h3
  refine stF rfl ?_
  have e : l ++ Qbj true 16 = l := List.append_nil l
  rw [e] at h3 ⊢
  exact h3
 | false =>
  rw [hc] at h3
  refine stT rfl (stC (Qha (by omega)) ?_)
  rw [Qih, Qii l 16]
  exact h3
theorem Qxf (s : Sg) (hc : s.cls.length ≤ 281474976710656) (l : List Int) (hl : l.length ≤ 1) : Evt fun n => QcZ lb n s.car s.num s.day s.fr s.to s.dep s.arr s.cls s.st s.mar l.isEmpty (l.map icv) = some (errV (((l ++ Qbj (Qdu s) 13) ++ Qbj (QcU s.cls) 16) ++ Qbj (stOk s.st) 10)) := by
 refine (Qxl lb s hc (l ++ Qbj (Qdu s) 13) (by unfold Qbj; cases Qdu s <;> simp <;> omega)).mono fun n h => ?_
 rw [Qm9]
 cases ht : Qdu s with
 | true =>
  rw [ht] at h
  have e : l ++ Qbj true 13 = l := List.append_nil l
  rw [e] at h ⊢
  simp only [Qdu, decide_eq_true_eq] at ht
  exact stF (decF (by omega)) (stF (decF (by omega)) (stF (decF (by omega)) h))
 | false =>
  rw [ht] at h
  simp only [Qdu, decide_eq_false_iff_not] at ht
  rw [Qih, Qii l 13]
  by_cases h1 : s.dep < 0
  ·exact stT (decT h1) (stC (Qha (by omega)) h)
  ·by_cases h2 : s.dep ≥ s.arr
   ·exact stF (decF h1) (stT (decT (by omega)) (stC (Qha (by omega)) h))
   ·exact stF (decF h1) (stF (decF (by omega)) (stT (decT (by omega)) (stC (Qha (by omega)) h)))
theorem Qwe (s : Sg) (hc : s.cls.length ≤ 281474976710656) (h1 : s.car.length ≤ 281474976710656) (h2 : s.fr.length ≤ 281474976710656) (h3 : s.to.length ≤ 281474976710656) : Ret lb Qa9 [.agg (sgE s)] (errV (QcE s)) := by
 refine .top rfl (Evt.imp2 (Evt.imp2 (Qpn lb s.car h1) (Evt.imp2 (Qjb lb s.fr h2) (Qjb lb s.to h3) fun n a b => (⟨a, b⟩ : _ ∧ _)) fun n a b => (⟨a, b⟩ : _ ∧ _)) (Qxf lb s hc (Qbj (Qct s) 5) (by unfold Qbj; cases Qct s <;> simp)) fun n ⟨c1, c2, c3⟩ h => ?_)
 rw [show top lb n Qa9 [.agg (sgE s)] = _ from Qqe lb n s.car s.num s.day s.fr s.to s.dep s.arr s.cls s.st s.mar]
 refine stO _ c1 (stO _ (Qau _) ?_)
 unfold QcE
 cases k1 : QfM s.car with
 | false =>
  have : Qct s = false := by unfold Qct; rw [k1]; rfl
  rw [this] at h ⊢
  exact stT rfl h
 | true =>
  refine stF rfl (stO _ c2 (stO _ (Qau _) ?_))
  cases k2 : QcO s.fr with
  | false =>
   have : Qct s = false := by unfold Qct; rw [k1, k2]; rfl
   rw [this] at h ⊢
   exact stT rfl h
  | true =>
   refine stF rfl (stO _ c3 (stO _ (Qau _) ?_))
   have : Qct s = QcO s.to := by unfold Qct; rw [k1, k2]; rfl
   rw [this] at h ⊢
   cases k3 : QcO s.to with
   | false => rw [k3] at h; exact stT rfl h
   | true => rw [k3] at h; exact stF rfl h
def PeSm (p : Pe) : Prop := p.la.length ≤ 1000000000 ∧ p.fi.length ≤ 1000000000 ∧ p.ty.length ≤ 281474976710656
theorem Qq3 (p : Pe) (h : PeSm p) : Ret lb Qhg [.agg (peE p)] (.bool (Qdb p)) :=
 .top rfl (Evt.imp2 (Qml lb p.la h.1) (Qml lb p.fi h.2.1) fun n h1 h2 => by
  rw [show top lb n Qhg [.agg (peE p)] = _ from QsW lb n p.la p.fi p.ty]
  refine stO _ h1 (stO _ (Qau _) ?_)
  unfold Qdb
  cases Qga p.la with
  | true => exact stT rfl (stO _ h2 rfl)
  | false => exact stF rfl rfl)
theorem Qrd (p : Pe) (h : PeSm p) : Ret lb Qhe [.agg (peE p)] (.bool (QdM p)) :=
 .top rfl ((Qf4 lb p.ty 3 3 h.2.2).mono fun n h1 => by
  rw [show top lb n Qhe [.agg (peE p)] = _ from QsX lb n p.la p.fi p.ty]
  exact stO _ h1 rfl)
theorem QmS (bn : Bool) (l : List Pe) (hl : l.length ≤ 1000000) : ∀ (t u : List Pe) (i a : Int), u ++ t = l → 0 ≤ i → i ≤ (u.length : Int) → 0 ≤ a → a ≤ (u.length : Int) → ∀ n k, t.length < k → Qee lb n k bn (l.map peE) i a (u.length : Int) = some (.bool (!decide (Qbu (i - a) t > 0)))
 | [], u, i, a, h, _, _, _, _, n, k, hk => by
  obtain ⟨k, rfl⟩ : ∃ j, k = j + 1 := ⟨k - 1, by simp at hk; omega⟩
  have hu : u = l := by simpa using h
  rw [QiT, hu]
  refine stF (decF (by simp)) ?_
  rw [Qqf]
  have : decide (i ≤ a) = !decide (i - a > 0) := by by_cases h : i ≤ a <;> simp [h] <;> omega
  rw [this]; rfl
 | p :: t, u, i, a, h, i0, i1, a0, a1, n, k, hk => by
  obtain ⟨k, rfl⟩ : ∃ j, k = j + 1 := ⟨k - 1, by simp at hk; omega⟩
  have hul : u.length + (t.length + 1) = l.length := by rw [← h]; simp
  have hw : IntKind.wrap .i64 ((u.length : Int) + 1) = ((u ++ [p]).length : Int) := by rw [Qaw (by omega) (by omega)]; simp
  have hat : atL (l.map peE) (u.length : Int) = some (peE p) := Qbh (by rw [List.getElem?_map, ← h]; simp)
  have wi : IntKind.wrap .i64 (i + 1) = i + 1 := Qaw (by omega) (by omega)
  have wa : IntKind.wrap .i64 (a + 1) = a + 1 := Qaw (by omega) (by omega)
  have hul2 : ((u ++ [p]).length : Int) = (u.length : Int) + 1 := by simp
  rw [QiT, hw, wi, wa]
  unfold Qbu
  refine stT (decT (by simp; omega)) (stO _ hat (stC rfl (stO _ rfl (stO _ rfl ?_))))
  cases hI : infB p with
  | true =>
   have hA : aduB p = false := by unfold aduB; rw [hI]; rfl
   have ih := QmS bn l hl t (u ++ [p]) (i + 1) a (by rw [← h]; simp) (by omega) (by omega) a0 (by omega) n k (by simp at hk; omega)
   refine stT hI (ih.trans ?_)
   rw [hA]
   simp only [cond_true, cond_false]
   rw [show i + 1 - a = i - a + 1 - 0 by omega]
  | false =>
   refine stF hI (stO _ hat (stC rfl (stO _ rfl (stO _ rfl ?_))))
   cases hA : aduB p with
   | true =>
    have ih := QmS bn l hl t (u ++ [p]) i (a + 1) (by rw [← h]; simp) i0 (by omega) (by omega) (by omega) n k (by simp at hk; omega)
    have hc : (!(p.ty == [67, 72, 68])) = true := by unfold aduB at hA; rw [hI] at hA; simpa using hA
    refine stT hc (ih.trans ?_)
    simp only [cond_true, cond_false]
    rw [show i - (a + 1) = i - a + 0 - 1 by omega]
   | false =>
    have ih := QmS bn l hl t (u ++ [p]) i a (by rw [← h]; simp) i0 (by omega) a0 (by omega) n k (by simp at hk; omega)
    have hc : (!(p.ty == [67, 72, 68])) = false := by unfold aduB at hA; rw [hI] at hA; simpa using hA
    exact stF hc (ih.trans (by simp))
theorem Qon (bn : Bool) (l : List Pe) (hl : l.length ≤ 1000000) : Ret lb QbC [.list bn (l.map peE)] (.bool (!decide (Qbu 0 l > 0))) :=
 .top rfl ((Evt.ge (l.length + 1)).mono fun n hn => by
  rw [Qs4]
  exact QmS lb bn l hl l [] 0 0 rfl (by omega) (by omega) (by omega) (by omega) n n (by omega))
theorem QlV (bn : Bool) (ps : List Pe) (i : Int) (l : List Fau) (g : Int) (hps : ps.length ≤ 1000000) (hl : l.length ≤ 900000) (g0 : 0 ≤ g) (g1 : g ≤ 99) :
  Evt fun n => Qez lb n bn (ps.map peE) i g l.isEmpty (l.map fauE) = some (QaS ((l ++ Qax (QaL ps.length g) 4 QaO) ++ Qax (decide (Qbu 0 ps > 0)) 25 QaO)) :=
 (Qon lb bn ps hps).mono fun n h => by
  have hlen : (((ps.map peE).length : Nat) : Int) = (ps.length : Int) := by simp
  have hw : IntKind.wrap .i64 ((ps.length : Int) + g) = (ps.length : Int) + g := Qaw (by omega) (by omega)
  have five : ∀ F : List Fau, F.length ≤ 999999 → QbU lb n bn (ps.map peE) g i F.isEmpty (F.map fauE) = some (QaS (F ++ Qax (decide (Qbu 0 ps > 0)) 25 QaO)) := fun F hF => by
   rw [QoQ]
   refine stO _ h (stO _ (Qau _) ?_)
   rw [Bool.not_not]
   exact acc (decide (Qbu 0 ps > 0)) F 25 QaO hF (fun b l => some (.list b l))
  have bad := (accT l 4 QaO (by omega) (fun b m => QbU lb n bn (ps.map peE) g i b m)).trans (five (l ++ Qax true 4 QaO) (by have := Qa4 true 4 QaO; rw [List.length_append]; omega))
  have good := (accF l 4 QaO (fun b m => QbU lb n bn (ps.map peE) g i b m)).trans (five (l ++ Qax false 4 QaO) (by have := Qa4 false 4 QaO; rw [List.length_append]; omega))
  rw [Qpj, hlen, hw]
  by_cases h0 : (ps.length : Int) + g = 0
  ·rw [show QaL ps.length g = true by simp [QaL, h0]]
   exact stT (beqT h0) bad
  refine stF (beqF h0) ?_
  by_cases hg : g = 0
  ·refine stT (beqT hg) ?_
   by_cases h9 : (ps.length : Int) > 9
   ·rw [show QaL ps.length g = true by simp [QaL, hg]; omega]
    exact stT (decT h9) bad
   refine stF (decF h9) ?_
   by_cases h99 : (ps.length : Int) + g > 99
   ·omega
   rw [show QaL ps.length g = false by simp [QaL]; omega]
   exact stF (decF h99) good
  ·refine stF (beqF hg) ?_
   by_cases h99 : (ps.length : Int) + g > 99
   ·rw [show QaL ps.length g = true by simp [QaL]; omega]
    exact stT (decT h99) bad
   rw [show QaL ps.length g = false by simp [QaL]; omega]
   exact stF (decF h99) good
theorem Qvm (bn : Bool) (ps : List Pe) (grp i : Int) (l : List Fau) (hps : ps.length ≤ 1000000) (hl : l.length ≤ 800000) :
  Evt fun n => Qix lb n bn (ps.map peE) grp l.isEmpty (l.map fauE) i = some (QaS (l ++ QfP ps grp)) := by
 unfold QfP
 by_cases h0 : grp < 0
 ·have hb : Qcf grp = true := by simp [Qcf, h0]
  refine (QlV lb bn ps i (l ++ [(2, QaO)]) 0 hps (by simp; omega) (by omega) (by omega)).mono fun n h => ?_
  rw [Qgb]
  refine stT (decT h0) (stC (Qfo (by omega)) ?_)
  rw [Qei, Qeh l (2, [112, 97, 114, 116, 121]), hb]
  simpa [Qax, QaO] using h
 by_cases h1 : grp > 99
 ·have hb : Qcf grp = true := by simp [Qcf, h1]
  refine (QlV lb bn ps i (l ++ [(2, QaO)]) 0 hps (by simp; omega) (by omega) (by omega)).mono fun n h => ?_
  rw [Qgb]
  refine stF (decF h0) (stT (decT h1) (stC (Qfo (by omega)) ?_))
  rw [Qei, Qeh l (2, [112, 97, 114, 116, 121]), hb]
  simpa [Qax, QaO] using h
 ·have hb : Qcf grp = false := by simp [Qcf]; omega
  refine (QlV lb bn ps i l grp hps (by omega) (by omega) (by omega)).mono fun n h => ?_
  rw [Qgb]
  refine stF (decF h0) (stF (decF h1) ?_)
  rw [hb]
  simpa [Qax] using h
theorem Qrc (bn : Bool) (ps : List Pe) (grp : Int) (hps : ps.length ≤ 100000) (hok : ∀ p ∈ ps, PeSm p) : Ret lb QaA [.list bn (ps.map peE), .int .i64 grp] (QaS (QaG ps grp)) := by
 have hlen : ∀ l : List Pe, (idxF perF 0 l).length ≤ 2 * l.length := fun l => QeB Qoe l 0
 refine .top rfl ((Evt.diag (Qen (enc := peE) (l := ps) (P := fun p t n k => QdN lb n k bn (ps.map peE) grp (idxF perF 0 p).isEmpty ((idxF perF 0 p).map fauE) (p.length : Int) = some (QaS (QaG ps grp))) (by omega)
  ((Qvm lb bn ps grp (ps.length : Int) (idxF perF 0 ps) (by omega) (by have := hlen ps; omega)).mono fun n h k => by
    rw [Qh6]
    exact stF (decF (by simp)) h)
  (fun p x t h h1 h2 h3 ih => by
   have hpl : p.length + (t.length + 1) = ps.length := by rw [← h]; simp
   have hx : PeSm x := hok x (by rw [← h]; simp)
   have hil := QeM (z := (p.length : Int)) (by omega) (by omega)
   have hF := hlen p
   refine Evt.imp2 (Evt.imp2 (Qq3 lb x hx) (Evt.imp2 (Qrd lb x hx) (Qgp lb (p.length : Int) (by omega) (by omega)) fun n a b => And.intro a b) fun n a b => And.intro a b) ih fun n ⟨c1, c2, c3⟩ hi k hk => ?_
   have hi := hi k hk
   rw [Qh6]
   refine stT (decT h1) (stO _ c3 (stO _ rfl (stC (decT (by simp; omega)) (stO _ h2 (stC rfl (stO _ rfl (stO _ rfl (stO _ rfl (stO _ c1 (stO _ (Qau _) ?_))))))))))
   rw [Qes, Nat.zero_add] at hi
   rw [show perF p.length x = Qax (!Qdb x) 5 (QbS ++ Lib.itoa (p.length : Int)) ++ Qax (!QdM x) 8 (QbS ++ Lib.itoa (p.length : Int)) from rfl] at hi
   rw [← List.append_assoc] at hi
   refine (acc (!Qdb x) (idxF perF 0 p) 5 (QbS ++ Lib.itoa (p.length : Int)) (by omega) (fun b l => Qgh lb n k bn (ps.map peE) grp (p.length : Int) (Lib.itoa (p.length : Int)) (.str (Lib.itoa (p.length : Int))) b l)).trans ?_
   rw [QoO, h3]
   refine stO _ h2 (stC rfl (stO _ rfl (stO _ rfl (stO _ rfl (stO _ c2 (stO _ (Qau _) ?_))))))
   exact (acc (!QdM x) (idxF perF 0 p ++ Qax (!Qdb x) 5 (QbS ++ Lib.itoa (p.length : Int))) 8 (QbS ++ Lib.itoa (p.length : Int)) (by have := Qa4 (!Qdb x) 5 (QbS ++ Lib.itoa (p.length : Int)); rw [List.length_append]; omega) (fun b l => QdN lb n k bn (ps.map peE) grp b l ((p ++ [x]).length : Int))).trans hi) ps [] rfl)).mono fun n h => by rw [Qsj]; exact h)
theorem Qv4 (n y8 : Nat) (jj : List UInt8) (jb : Bool) (jd : List (List CV)) (jg : Int) (ja : Bool) (jf : List (List CV)) (je : Bool) (jh : List (List CV)) (jc : Int) (jx : CV) (wk wn : Int) (y7 : List UInt8) (ju : Bool) (js : List (List CV)) (jl : CV) (jt : Bool × List (List CV)) (jA : CV) (vP : List CV) (kt vL yE kL : CV) (x : Sv) (h7 : vL = .int .i64 x.pe) (h8 : yE = .int .i64 x.sg) (G : List Fau) (hG : G.length ≤ 999999) :
  Qeb lb n y8 jj jb jd jg ja jf je jh jc jx wk wn y7 ju js jl jt jA vP kt vL yE kL G.isEmpty (G.map fauE) = QbJ lb n y8 jj jb jd jg ja jf je jh jc jx wk ju js jl jt jA (G ++ Qax (Qek jd.length jf.length x) 7 (Qbs ++ y7)).isEmpty ((G ++ Qax (Qek jd.length jf.length x) 7 (Qbs ++ y7)).map fauE) (IntKind.wrap .i64 (wn + 1)) := by
 subst h7; subst h8
 have hT := accT G 7 (Qbs ++ y7) hG (fun b l => QbJ lb n y8 jj jb jd jg ja jf je jh jc jx wk ju js jl jt jA b l (IntKind.wrap .i64 (wn + 1)))
 have hF := accF G 7 (Qbs ++ y7) (fun b l => QbJ lb n y8 jj jb jd jg ja jf je jh jc jx wk ju js jl jt jA b l (IntKind.wrap .i64 (wn + 1)))
 rw [Qop]
 unfold Qek
 refine stO _ (Qas ..) ?_
 cases decide (x.pe < 0) with
 | true => exact stT rfl hT
 | false =>
  refine stF rfl (stO _ (Qas ..) ?_)
  cases decide (x.pe ≥ (jd.length : Int)) with
  | true => exact stT rfl hT
  | false =>
   refine stF rfl (stO _ (Qas ..) ?_)
   cases decide (x.sg < 0) with
   | true => exact stT rfl hT
   | false =>
    refine stF rfl (stO _ (Qas ..) ?_)
    cases decide (x.sg ≥ (jf.length : Int)) with
    | true => exact stT rfl hT
    | false => exact stF rfl hF
theorem Qw7 (n : Nat) (jj : List UInt8) (jb : Bool) (jd : List (List CV)) (jg : Int) (ja : Bool) (jf : List (List CV)) (je : Bool) (jh : List (List CV)) (jc : Int) (jx : CV) (ju : Bool) (js : List (List CV)) (jl : CV) (jt : Bool × List (List CV)) (jA : CV) (wk : Int) (svs : List Sv) (h9 : jh = svs.map svE) (hl : svs.length ≤ 100000) (hok : ∀ x ∈ svs, x.cd.length ≤ 281474976710656) (F : List Fau) (hF : F.length ≤ 500000) :
  Evt fun n => Qiv lb n jj jb jd jg ja jf je jh jc jx ju js jl jt jA F.isEmpty (F.map fauE) wk = some (QaS (F ++ idxF (svF jd.length jf.length) 0 svs)) := by
 subst h9
 have hlen : ∀ l : List Sv, (idxF (svF jd.length jf.length) 0 l).length ≤ 2 * l.length := fun l => QeB (QtL _ _) l 0
 refine (Evt.diag (Qen (enc := svE) (l := svs) (P := fun p t n k => QbJ lb n k jj jb jd jg ja jf je (svs.map svE) jc jx wk ju js jl jt jA (F ++ idxF (svF jd.length jf.length) 0 p).isEmpty ((F ++ idxF (svF jd.length jf.length) 0 p).map fauE) (p.length : Int) = some (QaS (F ++ idxF (svF jd.length jf.length) 0 svs))) (by omega)
  (.all fun n k => by
   rw [Qh4]
   refine stF (decF (by simp)) ?_
   rw [QnZ]
   rfl)
  (fun p x t h h1 h2 h3 ih => by
   have hpl : p.length + (t.length + 1) = svs.length := by rw [← h]; simp
   have hx := hok x (by rw [← h]; simp)
   have hil := QeM (z := (p.length : Int)) (by omega) (by omega)
   have hP := hlen p
   refine Evt.imp2 (Evt.imp2 (Qf4 lb x.cd 4 4 hx) (Qgp lb (p.length : Int) (by omega) (by omega)) fun n a b => And.intro a b) ih fun n ⟨c1, c2⟩ hi k hk => ?_
   have hi := hi k hk
   rw [Qh4]
   refine stT (decT h1) (stO _ h2 (stC rfl (stO _ rfl (stO _ rfl (stO _ rfl (stO _ c2 (stO _ rfl (stC (decT (by simp; omega)) (stO _ c1 (stO _ (Qau _) ?_))))))))))
   refine (acc (!Qa1 x.cd 4 4) (F ++ idxF (svF jd.length jf.length) 0 p) 5 (Qbs ++ Lib.itoa (p.length : Int)) (by simp; omega) (fun b l => Qeb lb n k jj jb jd jg ja jf je (svs.map svE) jc jx wk (p.length : Int) (Lib.itoa (p.length : Int)) ju js jl jt jA (svE x) (.str x.cd) (.int .i64 x.pe) (.int .i64 x.sg) (.str (Lib.itoa (p.length : Int))) b l)).trans ?_
   refine (Qv4 (x := x) (h7 := rfl) (h8 := rfl) (hG := by
    have := Qa4 (!Qa1 x.cd 4 4) 5 (Qbs ++ Lib.itoa (p.length : Int))
    rw [List.length_append, List.length_append]; omega) ..).trans ?_
   rw [h3]
   rw [Qes, Nat.zero_add] at hi
   rw [show svF jd.length jf.length p.length x = Qax (!Qa1 x.cd 4 4) 5 (Qbs ++ Lib.itoa (p.length : Int)) ++ Qax (Qek jd.length jf.length x) 7 (Qbs ++ Lib.itoa (p.length : Int)) from rfl] at hi
   simp only [List.append_assoc] at hi ⊢
   exact hi) svs [] rfl)).mono fun n h => by
   rw [QoC]
   have e : F ++ idxF (svF jd.length jf.length) 0 ([] : List Sv) = F := List.append_nil F
   rw [e] at h
   exact h
theorem QtE (n vl : Nat) (jj : List UInt8) (jb : Bool) (jd : List (List CV)) (jg : Int) (ja : Bool) (jf : List (List CV)) (je : Bool) (jh : List (List CV)) (jc : Int) (jx : CV) (yW : Int) (y1 : CV) (ju : Bool) (js : List (List CV)) (jl : CV) (jt : Bool × List (List CV)) (jA : CV) (y3 : List CV) (jC jH w5 jI jG jF jW j6 j5 vX : CV) (m : Nat) (h63 : yW = (m : Int)) (hm : m ≤ 1000000) (er : List Int) (hr : y1 = errV er) (her : er.length ≤ 10) (F : List Fau) (hF : F.length ≤ 900000) (hdec : C lb n Qdn [.int .i64 yW] = some (.str (Lib.itoa (m : Int)))) : ∀ (t p : List Int), p ++ t = er → ∀ k, t.length < k →
  QeL lb n k vl jj jb jd jg ja jf je jh jc jx yW y1 ju js jl jt jA y3 jC jH w5 jI jG jF jW j6 j5 vX (F ++ p.map fun e => (e, segS ++ Lib.itoa (m : Int))).isEmpty ((F ++ p.map fun e => (e, segS ++ Lib.itoa (m : Int))).map fauE) (p.length : Int) = QeH lb n vl jj jb jd jg ja jf je jh jc jx ju js jl jt jA (F ++ er.map fun e => (e, segS ++ Lib.itoa (m : Int))).isEmpty ((F ++ er.map fun e => (e, segS ++ Lib.itoa (m : Int))).map fauE) (IntKind.wrap .i64 (yW + 1))
 | [], p, h, k, hk => by
  obtain ⟨k, rfl⟩ : ∃ j, k = j + 1 := ⟨k - 1, by simp at hk; omega⟩
  have hpe : p = er := by simpa using h
  subst hpe; subst hr
  rw [Qh0]
  refine stO _ rfl (stF (decF (by simp)) ?_)
  rw [QpD]
 | e :: t, p, h, k, hk => by
  obtain ⟨k, rfl⟩ : ∃ j, k = j + 1 := ⟨k - 1, by simp at hk; omega⟩
  have hpl : p.length + (t.length + 1) = er.length := by rw [← h]; simp
  have hil := QeM (z := (m : Int)) (by omega) (by omega)
  have hw : IntKind.wrap .i64 ((p.length : Int) + 1) = ((p ++ [e]).length : Int) := by rw [Qaw (by omega) (by omega)]; simp
  have hat : atL (er.map icv) (p.length : Int) = some (icv e) := Qbh (by rw [List.getElem?_map, ← h]; simp)
  have ih := QtE n vl jj jb jd jg ja jf je jh jc jx yW y1 ju js jl jt jA y3 jC jH w5 jI jG jF jW j6 j5 vX m h63 hm er hr her F hF hdec t (p ++ [e]) (by rw [← h]; simp) k (by simp at hk; omega)
  have hFl : (F ++ p.map fun e => (e, segS ++ Lib.itoa (m : Int))).length ≤ 999999 := by rw [List.length_append, List.length_map]; omega
  subst hr
  rw [Qh0]
  refine stO _ rfl (stT (decT (by simp; omega)) (stO _ rfl (stO _ hat (stC rfl (stO _ rfl (stO _ hdec (stO _ rfl (stC (decT (by simp; omega)) (stC rfl ?_)))))))))
  refine (accT (F ++ p.map fun e => (e, segS ++ Lib.itoa (m : Int))) e (segS ++ Lib.itoa (m : Int)) hFl (fun b l => QeL lb n k vl jj jb jd jg ja jf je jh jc jx yW (errV er) ju js jl jt jA y3 jC jH w5 jI jG jF jW j6 j5 vX b l (IntKind.wrap .i64 ((p.length : Int) + 1)))).trans ?_
  rw [hw]
  rw [List.map_append, ← List.append_assoc] at ih
  exact ih
theorem Qw6 (n : Nat) (jj : List UInt8) (jb : Bool) (jd : List (List CV)) (jg : Int) (ja : Bool) (jf : List (List CV)) (je : Bool) (jh : List (List CV)) (jc : Int) (jx : CV) (ju : Bool) (js : List (List CV)) (jl : CV) (jt : Bool × List (List CV)) (jA : CV) (segs : List Sg) (h6 : jf = segs.map sgE) (hs : segs.length ≤ 1000) (hsok : ∀ s ∈ segs, (s.car.length ≤ 281474976710656 ∧ s.fr.length ≤ 281474976710656 ∧ s.to.length ≤ 281474976710656) ∧ s.cls.length ≤ 281474976710656) (svs : List Sv) (h9 : jh = svs.map svE) (hl : svs.length ≤ 100000) (hok : ∀ x ∈ svs, x.cd.length ≤ 281474976710656) (F : List Fau) (hF : F.length ≤ 400000) :
  Evt fun n => QeG lb n jj jb jd jg ja jf je jh jc jx ju js jl jt jA F.isEmpty (F.map fauE) = some (QaS ((F ++ idxF segF 0 segs) ++ idxF (svF jd.length jf.length) 0 svs)) := by
 have hlen : ∀ l : List Sg, (idxF segF 0 l).length ≤ 4 * l.length := fun l => QeB QsD l 0
 have h8 := Qw7 lb 0 jj jb jd jg ja jf je jh jc jx ju js jl jt jA (segs.length : Int) svs h9 hl hok (F ++ idxF segF 0 segs) (by have := hlen segs; rw [List.length_append]; omega)
 subst h6
 refine (Evt.diag (Qen (enc := sgE) (l := segs) (P := fun p t n k => QeH lb n k jj jb jd jg ja (segs.map sgE) je jh jc jx ju js jl jt jA (F ++ idxF segF 0 p).isEmpty ((F ++ idxF segF 0 p).map fauE) (p.length : Int) = some (QaS ((F ++ idxF segF 0 segs) ++ idxF (svF jd.length (segs.map sgE).length) 0 svs))) (by omega)
  (h8.mono fun n h k => by
   rw [Qh8]
   exact stF (decF (by simp)) h)
  (fun p x t h h1 h2 h3 ih => by
   have hpl : p.length + (t.length + 1) = segs.length := by rw [← h]; simp
   have hx := hsok x (by rw [← h]; simp)
   have hP := hlen p
   refine Evt.imp2 (Evt.imp2 (Qwe lb x hx.2 hx.1.1 hx.1.2.1 hx.1.2.2) (Evt.imp2 (Qgp lb (p.length : Int) (by omega) (by omega)) (Evt.ge 6) fun n a b => And.intro a b) fun n a b => And.intro a b) ih fun n ⟨c1, c2, c3⟩ hi k hk => ?_
   have hi := hi k hk
   rw [Qh8]
   refine stT (decT h1) (stO _ h2 (stC rfl (stO _ rfl (stO _ rfl (stO _ rfl (stO _ rfl (stO _ rfl (stO _ rfl (stO _ rfl (stO _ rfl (stO _ rfl (stO _ rfl (stO _ c1 ?_)))))))))))))
   have hL := QtE (lb := lb) (n := n) (vl := k) (m := p.length) (yW := (p.length : Int)) (h63 := rfl) (hm := by omega) (er := QcE x) (y1 := errV (QcE x)) (hr := rfl) (her := by have := Qf2 x; omega) (F := F ++ idxF segF 0 p) (hF := by rw [List.length_append]; omega) (hdec := c2) (jj := jj) (jb := jb) (jd := jd) (jg := jg) (ja := ja) (jf := segs.map sgE) (je := je) (jh := jh) (jc := jc) (jx := jx) (ju := ju) (js := js) (jl := jl) (jt := jt) (jA := jA) (y3 := sgE x) (jC := .str x.car) (jH := .int .i64 x.num) (w5 := .int .i64 x.day) (jI := .str x.fr) (jG := .str x.to) (jF := .int .i64 x.dep) (jW := .int .i64 x.arr) (j6 := .str x.cls) (j5 := .int .i64 x.st) (vX := .int .i64 x.mar) (QcE x) [] rfl n (by have := Qf2 x; omega)
   rw [List.map_nil, List.append_nil, h3] at hL
   refine Eq.trans hL ?_
   rw [Qes, Nat.zero_add] at hi
   rw [show segF p.length x = (QcE x).map (fun e => (e, segS ++ Lib.itoa (p.length : Int))) from rfl] at hi
   rw [List.append_assoc]
   exact hi) segs [] rfl)).mono fun n h => by
   rw [QoM]
   have e : F ++ idxF segF 0 ([] : List Sg) = F := List.append_nil F
   rw [e] at h
   exact h
theorem QnN (s : Bs) (hs : s.length ≤ 281474976710656) : Ret lb Qd9 [.str s] (.bool (Qa1 s 6 6)) :=
 .top rfl ((Qf4 lb s 6 6 hs).mono fun n h => by
  rw [Qp5]
  exact stO _ h rfl)
def Qja (b : Bk) : List Fau := Qi4 b.loc b.ps b.grp b.segs b.svs b.lim
theorem Qrj (b : Bk) (hloc : b.loc.length ≤ 281474976710656) (hps : b.ps.length ≤ 1000) (hpok : ∀ p ∈ b.ps, PeSm p) (hs : b.segs.length ≤ 1000) (hsok : ∀ s ∈ b.segs, (s.car.length ≤ 281474976710656 ∧ s.fr.length ≤ 281474976710656 ∧ s.to.length ≤ 281474976710656) ∧ s.cls.length ≤ 281474976710656) (hl : b.svs.length ≤ 100000) (hok : ∀ x ∈ b.svs, x.cd.length ≤ 281474976710656) :
  Ret lb Qah [.agg (bkE b)] (QaS (Qja b)) := by
 have hmm : (mars b.segs).length ≤ 1000 := by simpa [mars] using hs
 have hpl := QtC b.ps b.grp
 have h3 : ∀ F : List Fau, F.length ≤ 300000 → ∀ ju js jl jt, Evt fun n => Qdd lb n b.loc b.pn (b.ps.map peE) b.grp b.bn (b.segs.map sgE) b.rn (b.svs.map svE) b.lim ju js jl jt F.isEmpty (F.map fauE) = some (QaS (((F ++ Qax (marE (mars b.segs) != 0) (marE (mars b.segs)) QbR) ++ idxF segF 0 b.segs) ++ idxF (svF b.ps.length b.segs.length) 0 b.svs)) := fun F hF ju js jl jt => by
  have h4 := Qw6 lb 0 b.loc b.pn (b.ps.map peE) b.grp b.bn (b.segs.map sgE) b.rn (b.svs.map svE) b.lim (.int .i64 (marE (mars b.segs))) ju js jl jt (.list b.segs.isEmpty ((mars b.segs).map icv)) b.segs rfl hs hsok b.svs rfl hl hok (F ++ Qax (marE (mars b.segs) != 0) (marE (mars b.segs)) QbR) (by
   have := Qa4 (marE (mars b.segs) != 0) (marE (mars b.segs)) QbR
   rw [List.length_append]; omega)
  rw [List.length_map, List.length_map] at h4
  refine Evt.imp2 (Evt.imp2 (QoE lb b (by omega)) (Qrn lb b.segs.isEmpty (mars b.segs) (by omega)) fun n x y => And.intro x y) h4 fun n ⟨c1, c2⟩ h => ?_
  rw [QoS]
  refine stO _ c1 (stO _ c2 (stO _ (Qas ..) ?_))
  exact (acc (marE (mars b.segs) != 0) F (marE (mars b.segs)) QbR (by omega) (fun q l => QeG lb n b.loc b.pn (b.ps.map peE) b.grp b.bn (b.segs.map sgE) b.rn (b.svs.map svE) b.lim (.int .i64 (marE (mars b.segs))) ju js jl jt (.list b.segs.isEmpty ((mars b.segs).map icv)) q l)).trans h
 have h2 : ∀ F : List Fau, F.length ≤ 10 → Evt fun n => Qdg lb n b.loc b.pn (b.ps.map peE) b.grp b.bn (b.segs.map sgE) b.rn (b.svs.map svE) b.lim F.isEmpty (F.map fauE) = some (QaS (((((F ++ QaG b.ps b.grp) ++ Qax (decide ((b.segs.length : Int) > 24)) 4 QbR) ++ Qax (marE (mars b.segs) != 0) (marE (mars b.segs)) QbR) ++ idxF segF 0 b.segs) ++ idxF (svF b.ps.length b.segs.length) 0 b.svs)) := fun F hF => by
  have h4 := h3 ((F ++ QaG b.ps b.grp) ++ Qax (decide ((b.segs.length : Int) > 24)) 4 QbR) (by
   have := Qa4 (decide ((b.segs.length : Int) > 24)) 4 QbR
   simp only [List.length_append]; omega) F.isEmpty (F.map fauE) (QaS (QaG b.ps b.grp)) ((QaG b.ps b.grp).isEmpty, (QaG b.ps b.grp).map fauE)
  refine Evt.imp2 (Qrc lb b.pn b.ps b.grp (by omega) hpok) h4 fun n c1 h => ?_
  rw [QoR]
  refine stO _ c1 (stO _ rfl (stC (by simp [fauE]) (stC (Qb6 (by simp; omega)) ?_)))
  have e0 : ∀ a b : List Fau, (a.isEmpty && (b.map fauE).isEmpty) = (a ++ b).isEmpty := fun a b => by cases a <;> cases b <;> rfl
  have e1 := e0 F (QaG b.ps b.grp)
  have e2 : F.map fauE ++ (QaG b.ps b.grp).map fauE = (F ++ QaG b.ps b.grp).map fauE := by simp
  show (bif decide ((((b.segs.map sgE).length : Nat) : Int) > 24) then chkO (room ((F.map fauE ++ (QaG b.ps b.grp).map fauE).length + 1) 24) (Qdd lb n b.loc b.pn (b.ps.map peE) b.grp b.bn (b.segs.map sgE) b.rn (b.svs.map svE) b.lim F.isEmpty (F.map fauE) (QaS (QaG b.ps b.grp)) ((QaG b.ps b.grp).isEmpty, (QaG b.ps b.grp).map fauE) ((F.isEmpty && ((QaG b.ps b.grp).map fauE).isEmpty) && false) ((F.map fauE ++ (QaG b.ps b.grp).map fauE) ++ [[CV.int .i64 4, CV.str QbR]])) else Qdd lb n b.loc b.pn (b.ps.map peE) b.grp b.bn (b.segs.map sgE) b.rn (b.svs.map svE) b.lim F.isEmpty (F.map fauE) (QaS (QaG b.ps b.grp)) ((QaG b.ps b.grp).isEmpty, (QaG b.ps b.grp).map fauE) (F.isEmpty && ((QaG b.ps b.grp).map fauE).isEmpty) (F.map fauE ++ (QaG b.ps b.grp).map fauE)) = _
  rw [e1, e2, List.length_map]
  exact (acc (decide ((b.segs.length : Int) > 24)) (F ++ QaG b.ps b.grp) 4 QbR (by rw [List.length_append]; omega) (fun q l => Qdd lb n b.loc b.pn (b.ps.map peE) b.grp b.bn (b.segs.map sgE) b.rn (b.svs.map svE) b.lim F.isEmpty (F.map fauE) (QaS (QaG b.ps b.grp)) ((QaG b.ps b.grp).isEmpty, (QaG b.ps b.grp).map fauE) q l)).trans h
 have h1 : ∀ F : List Fau, F.length ≤ 9 → Evt fun n => r35_Check_J1 lb n b.loc b.pn (b.ps.map peE) b.grp b.bn (b.segs.map sgE) b.rn (b.svs.map svE) b.lim F.isEmpty (F.map fauE) = some (QaS ((((((F ++ Qax (Qfi b.lim) 13 QeJ) ++ QaG b.ps b.grp) ++ Qax (decide ((b.segs.length : Int) > 24)) 4 QbR) ++ Qax (marE (mars b.segs) != 0) (marE (mars b.segs)) QbR) ++ idxF segF 0 b.segs) ++ idxF (svF b.ps.length b.segs.length) 0 b.svs)) := fun F hF => by
  refine (h2 (F ++ Qax (Qfi b.lim) 13 QeJ) (by
   have := Qa4 (Qfi b.lim) 13 QeJ
   rw [List.length_append]; omega)).mono fun n h => ?_
  have hT := accT F 13 QeJ (by omega) (fun q m => Qdg lb n b.loc b.pn (b.ps.map peE) b.grp b.bn (b.segs.map sgE) b.rn (b.svs.map svE) b.lim q m)
  have hN := accF F 13 QeJ (fun q m => Qdg lb n b.loc b.pn (b.ps.map peE) b.grp b.bn (b.segs.map sgE) b.rn (b.svs.map svE) b.lim q m)
  rw [Qpx]
  unfold Qfi at h ⊢
  cases h0 : decide (b.lim < 0) with
  | true => rw [h0] at h; exact stT rfl (hT.trans h)
  | false =>
   rw [h0] at h
   refine stF rfl ?_
   cases h9 : decide (b.lim ≥ 52596000) with
   | true => rw [h9] at h; exact stT rfl (hT.trans h)
   | false => rw [h9] at h; exact stF rfl (hN.trans h)
 refine .top rfl (Evt.imp2 (QnN lb b.loc hloc) (h1 (Qax (!Qa1 b.loc 6 6) 5 QiK) (by have := Qa4 (!Qa1 b.loc 6 6) 5 QiK; omega)) fun n c h => ?_)
 rw [show top lb n Qah [.agg (bkE b)] = _ from Qs1 lb n b.loc b.pn (b.ps.map peE) b.grp b.bn (b.segs.map sgE) b.rn (b.svs.map svE) b.lim]
 refine stO _ c (stO _ (Qau _) ?_)
 unfold Qja Qi4
 cases hc : Qa1 b.loc 6 6 with
 | true => rw [hc] at h; exact stF rfl h
 | false => rw [hc] at h; exact stT rfl h
end Go.Proofs
