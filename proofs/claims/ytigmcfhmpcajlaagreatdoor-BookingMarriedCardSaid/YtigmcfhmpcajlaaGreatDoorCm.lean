/- Chapter 35: married segments with equal statuses, on plain data. Conditions: as each says. -/
import Derived.Test.YtigmcfhmpcajlaaGreatDoorBE
import Derived.Test.YtigmcfhmpcajlaaGreatDoorCq
import Derived.Test.YtigmcfhmpcajlaaGreatDoorGm
set_option linter.unusedSimpArgs false
set_option linter.unusedVariables false
namespace Go.Proofs
open Go.Am
variable (lb : Nat)
def QcP (s t : Sg) : Bool := !(decide (s.mar > 0) && ((s.mar == t.mar) && (s.st != t.st)))
def Qhl : List Sg → List Sg → Bool
 | _, [] => true
 | p, x :: t => p.all (QcP x) && Qhl (p ++ [x]) t
def QmF (l : List Sg) : Prop := ∀ (k m : Nat) s t, k < m → l[k]? = some s → l[m]? = some t → QcP t s = true
theorem QqE : ∀ (t p : List Sg), Qhl p t = true ↔ ∀ (m : Nat) x, t[m]? = some x → ∀ y ∈ p ++ t.take m, QcP x y = true
 | [], p => by simp [Qhl]
 | x :: t, p => by
  simp only [Qhl, Bool.and_eq_true, List.all_eq_true, QqE t (p ++ [x])]
  constructor
  ·rintro ⟨h1, h2⟩ m z hm y hy
   cases m with
   | zero =>
    simp at hm; subst hm
    exact h1 y (by simpa using hy)
   | succ m => exact h2 m z (by simpa using hm) y (by simpa using hy)
  ·intro h
   exact ⟨fun y hy => h 0 x rfl y (by simpa using hy), fun m z hm y hy => h (m + 1) z (by simpa using hm) y (by simpa using hy)⟩
theorem QrD (l : List Sg) : Qhl [] l = true ↔ QmF l := by
 rw [QqE]
 constructor
 ·intro h k m s t hkm hs ht
  refine h m t ht s ?_
  rw [List.nil_append, List.mem_take_iff_getElem]
  have hlt := (List.getElem?_eq_some_iff.1 hs)
  have hmt := (List.getElem?_eq_some_iff.1 ht).1
  exact ⟨k, by omega, hlt.2⟩
 ·intro h m x hm y hy
  rw [List.nil_append, List.mem_take_iff_getElem] at hy
  obtain ⟨k, hk, rfl⟩ := hy
  exact h k m _ x (by omega) (List.getElem?_eq_getElem (by omega)) hm
theorem Qtt (b : Bk) (hl : b.segs.length ≤ 1000000) (n yw : Nat) (P : List Sg) (x : Sg) (T : List Sg) (hb : P ++ x :: T = b.segs) (r : Bool) (hnext : Qfw lb n yw b.loc b.pn (b.ps.map peE) b.grp b.bn (b.segs.map sgE) b.rn (b.svs.map svE) b.lim (IntKind.wrap .i64 ((P.length : Int) + 1)) = some (.bool r)) : ∀ (t q : List Sg), q ++ t = P → ∀ k, t.length < k →
  Qes lb n k yw b.loc b.pn (b.ps.map peE) b.grp b.bn (b.segs.map sgE) b.rn (b.svs.map svE) b.lim (P.length : Int) (q.length : Int) = some (.bool (t.all (QcP x) && r))
 | [], q, hq, k, hk => by
  obtain ⟨k, rfl⟩ : ∃ j, k = j + 1 := ⟨k - 1, by simp at hk; omega⟩
  have : q = P := by simpa using hq
  rw [QiG]
  refine stF (decF (by rw [this]; omega)) ?_
  rw [Qpv, hnext]
  simp
 | y :: t, q, hq, k, hk => by
  obtain ⟨k, rfl⟩ : ∃ j, k = j + 1 := ⟨k - 1, by simp at hk; omega⟩
  have hql : q.length + (t.length + 1) = P.length := by rw [← hq]; simp
  have hPl : P.length + (T.length + 1) = b.segs.length := by rw [← hb]; simp
  have hw : IntKind.wrap .i64 ((q.length : Int) + 1) = ((q ++ [y]).length : Int) := by rw [QaB (by omega) (by omega)]; simp
  have ax : atL (b.segs.map sgE) (P.length : Int) = some (sgE x) := Qbz (by rw [List.getElem?_map, ← hb]; simp)
  have ay : atL (b.segs.map sgE) (q.length : Int) = some (sgE y) := Qbz (by rw [List.getElem?_map, ← hb, ← hq]; simp)
  have ih := Qtt b hl n yw P x T hb r hnext t (q ++ [y]) (by rw [← hq]; simp) k (by simp at hk; omega)
  rw [QiG, hw, List.all_cons]
  refine stT (decT (by omega)) (stO _ ax (stC rfl (stO _ rfl (stO _ (QaK ..) ?_))))
  by_cases h1 : x.mar > 0
  ·refine stT (decT h1) (stO _ ax (stC rfl (stO _ rfl (stO _ ay (stC rfl (stO _ rfl (stO _ (QaK ..) (stO _ (QaK ..) ?_))))))))
   by_cases h2 : x.mar = y.mar
   ·refine stT (beqT h2) (stO _ ax (stC rfl (stO _ rfl (stO _ ay (stC rfl (stO _ rfl (stO _ (QaK ..) (stO _ (QaK ..) ?_))))))))
    by_cases h3 : x.st = y.st
    ·have : QcP x y = true := by simp [QcP, h3]
     rw [this]
     exact stF (bneF h3) (ih.trans (by simp))
    ·have : QcP x y = false := by simp [QcP, h1, h2, h3]; omega
     rw [this]
     exact stT (bneT h3) rfl
   ·have : QcP x y = true := by simp [QcP, h2]
    rw [this]
    exact stF (beqF h2) (ih.trans (by simp))
  ·have : QcP x y = true := by simp [QcP, h1]
   rw [this]
   exact stF (decF h1) (ih.trans (by simp))
theorem Qth (b : Bk) (hl : b.segs.length ≤ 1000000) (n : Nat) (hn : b.segs.length < n) : ∀ (t p : List Sg), p ++ t = b.segs → ∀ k, t.length < k → Qfw lb n k b.loc b.pn (b.ps.map peE) b.grp b.bn (b.segs.map sgE) b.rn (b.svs.map svE) b.lim (p.length : Int) = some (.bool (Qhl p t))
 | [], p, h, k, hk => by
  obtain ⟨k, rfl⟩ : ∃ j, k = j + 1 := ⟨k - 1, by simp at hk; omega⟩
  have hp : p = b.segs := by simpa using h
  rw [Qix]
  refine stF (decF (by simp [hp])) ?_
  rw [QpJ]; rfl
 | x :: t, p, h, k, hk => by
  obtain ⟨k, rfl⟩ : ∃ j, k = j + 1 := ⟨k - 1, by simp at hk; omega⟩
  have hpl : p.length + (t.length + 1) = b.segs.length := by rw [← h]; simp
  have hw : IntKind.wrap .i64 ((p.length : Int) + 1) = ((p ++ [x]).length : Int) := by rw [QaB (by omega) (by omega)]; simp
  have ih := Qth b hl n hn t (p ++ [x]) (by rw [← h]; simp) k (by simp at hk; omega)
  rw [Qix]
  refine stT (decT (by simp; omega)) ?_
  exact Qtt lb b hl n k p x t h (Qhl (p ++ [x]) t) (by rw [hw]; exact ih) p [] rfl n (by omega)
theorem Qsp (b : Bk) (hl : b.segs.length ≤ 1000000) : Ret lb Qaw [.agg (bkE b)] (.bool (Qhl [] b.segs)) :=
 .top rfl ((Evt.ge (b.segs.length + 1)).mono fun n hn => by
  rw [show top lb n Qaw [.agg (bkE b)] = _ from Qtd lb n b.loc b.pn (b.ps.map peE) b.grp b.bn (b.segs.map sgE) b.rn (b.svs.map svE) b.lim]
  exact Qth lb b hl n (by omega) b.segs [] rfl n (by omega))
theorem Qn9 (l : List Int) : ∀ k, k ≤ l.length → ∀ g ∈ (QaZ (l.take k)).2.2, ∀ i ∈ g, i = g.headD 0 ∨ nthI l i > 0
 | 0, _, g, hg => by simp [QaZ] at hg
 | k + 1, h, g, hg => by
  obtain ⟨x, hx⟩ : ∃ x, l[k]? = some x := ⟨_, List.getElem?_eq_getElem (by omega)⟩
  have ih := Qn9 l k (by omega)
  have ok := QcM l k (by omega)
  rw [Qcq hx] at hg
  simp only [stepG] at hg
  rw [QdJ l k (by omega)] at hg
  split at hg
  ·rename_i hc
   rcases k with _ | k
   ·exfalso; have := hc.2; have h0 : (QaZ (l.take 0)).2.1 = 0 := rfl; omega
   ·have hne := ok.some (by omega)
    have hk1 : nthI l ((k + 1 : Nat) : Int) = x := by simp [nthI, hx]
    generalize (QaZ (l.take (k + 1))).2.2 = gs at hne ih ok hg
    obtain ⟨A, g0, rfl⟩ : ∃ A g0, gs = A ++ [g0] := ⟨_, _, (List.dropLast_concat_getLast hne).symm⟩
    rw [QcD] at hg
    rcases List.mem_append.1 hg with hg | hg
    ·exact ih g (by simp [hg])
    ·simp only [List.mem_singleton] at hg
     subst hg
     obtain ⟨a, t, rfl, _⟩ := ok.heads g0 (by simp)
     intro i hi
     rcases List.mem_append.1 hi with hi | hi
     ·exact ih (a :: t) (by simp) i hi
     ·simp only [List.mem_singleton] at hi
      subst hi
      exact .inr (by rw [hk1]; exact hc.1)
  ·rcases List.mem_append.1 hg with hg | hg
   ·exact ih g hg
   ·simp only [List.mem_singleton] at hg; subst hg
    intro i hi
    simp only [List.mem_singleton] at hi; subst hi
    exact .inl rfl
theorem QuA {l : List Int} {g : List Int} (hg : g ∈ QaL l) {i j : Int} (hi : i ∈ g) (hj : j ∈ g) (hne : i ≠ j) : nthI l i > 0 ∧ nthI l j = nthI l i := by
 have sm := Qhm l l.length (Nat.le_refl _)
 have po := Qn9 l l.length (Nat.le_refl _)
 rw [List.take_length] at sm po
 have e : nthI l j = nthI l i := by rw [sm g hg j hj, sm g hg i hi]
 refine ⟨?_, e⟩
 rcases po g hg i hi with h | h
 ·rcases po g hg j hj with h' | h'
  ·omega
  ·omega
 ·exact h
theorem Qqg (e : Int) : ∀ (all : List Int) (l : List Sg), all.Pairwise (· < ·) → (∀ i ∈ all, 0 ≤ i ∧ ∃ s, l[i.toNat]? = some s ∧ QaO s.st e ≠ 0) → ∃ l', chgF e all l = some l'
 | [], l, _, _ => ⟨l, rfl⟩
 | i :: r, l, hp, h => by
  obtain ⟨hp1, hp2⟩ := List.pairwise_cons.1 hp
  obtain ⟨hi, s, hs, ha⟩ := h i (by simp)
  have hF : chgF e (i :: r) l = (bif QaO s.st e == 0 then none else chgF e r (l.set i.toNat (QdX s (QaO s.st e)))) := by
   show (match l[i.toNat]? with
    | some s => bif QaO s.st e == 0 then none else chgF e r (l.set i.toNat (QdX s (QaO s.st e)))
    | none => none) = _
   rw [hs]
  rw [hF, beqF ha]
  refine Qqg e r _ hp2 fun j hj => ?_
  obtain ⟨hj0, t, ht, hat⟩ := h j (by simp [hj])
  have := hp1 j hj
  refine ⟨hj0, t, ?_, hat⟩
  rw [List.getElem?_set]
  have hne : i.toNat ≠ j.toNat := by omega
  simp [hne, ht]
theorem Qty {l : List Sg} (hE : QmF l) {k m : Nat} {s t : Sg} (hs : l[k]? = some s) (ht : l[m]? = some t) (hp : s.mar > 0) (he : t.mar = s.mar) : t.st = s.st := by
 rcases Nat.lt_trichotomy k m with h | h | h
 ·have := hE k m s t h hs ht
  simp [QcP, he, hp] at this; exact this
 ·subst h; rw [hs] at ht; simp at ht; rw [ht]
 ·have := hE m k t s h ht hs
  simp [QcP, he, hp] at this; exact this.symm
theorem Qs4 {l : List Sg} {x e : Int} (hm : marE (mars l) = 0) (hE : QmF l) (h0 : 0 ≤ x) (h1 : x < (l.length : Int)) (h5 : e ≠ 5) (h6 : e ≠ 6) (h7 : e ≠ 7) {s : Sg} (hs : l[x.toNat]? = some s) (ha : QaO s.st e ≠ 0) : ∃ l', chgF e (allF l x e) l = some l' := by
 obtain ⟨g, hg, hx, hall⟩ := QoP hm h0 h1 h5 h6 h7
 rw [hall]
 have mem := Qc9 (mars l) (mars l).length (Nat.le_refl _)
 rw [List.take_length] at mem
 have hml : (mars l).length = l.length := by simp [mars]
 refine Qqg e g l (Qht hg) fun i hi => ?_
 obtain ⟨i0, i1⟩ := mem g hg i hi
 obtain ⟨t, ht⟩ : ∃ t, l[i.toNat]? = some t := ⟨_, List.getElem?_eq_getElem (by omega)⟩
 refine ⟨i0, t, ht, ?_⟩
 by_cases hix : x = i
 ·subst hix; rw [hs] at ht; simp at ht; rw [← ht]; exact ha
 ·obtain ⟨p1, p2⟩ := QuA hg hx hi hix
  have ex : ((x.toNat : Nat) : Int) = x := by omega
  have ei : ((i.toNat : Nat) : Int) = i := by omega
  have a1 := QeQ hs
  have a2 := QeQ ht
  rw [ex] at a1
  rw [ei] at a2
  rw [Qty hE hs ht (by rw [← a1]; exact p1) (by rw [← a1, ← a2, p2])]
  exact ha
theorem Qu6 {l l' : List Sg} (hS : Stay l l') (hE : QmF l) : QmF l' := fun k m s' t' hkm hs' ht' => by
 have hk : k < l.length := by have := (List.getElem?_eq_some_iff.1 hs').1; rw [hS.len] at this; exact this
 have hmm : m < l.length := by have := (List.getElem?_eq_some_iff.1 ht').1; rw [hS.len] at this; exact this
 obtain ⟨s, hs⟩ : ∃ s, l[k]? = some s := ⟨_, List.getElem?_eq_getElem hk⟩
 obtain ⟨t, ht⟩ : ∃ t, l[m]? = some t := ⟨_, List.getElem?_eq_getElem hmm⟩
 have e1 : s'.mar = s.mar := by rw [(hS.seg k s s' hs hs').1]; rfl
 have e2 : t'.mar = t.mar := by rw [(hS.seg m t t' ht ht').1]; rfl
 by_cases hp : t.mar > 0
 ·by_cases he : t.mar = s.mar
  ·have hst := Qty hE hs ht (by rw [← he]; exact hp) he
   have := hS.pair m k t s t' s' ht hs ht' hs' hp he hst
   simp [QcP, this]
  ·simp [QcP, e1, e2, he]
 ·simp [QcP, e2, hp]
end Go.Proofs
