/- Chapter 35: lists of numbers on plain data: index, contains; the groups' numbers lie in their list. Conditions: as each says. -/
import Derived.Test.YtigmcfhmpcajlaaGreatDoorRk
import Derived.Test.YtigmcfhmpcajlaaGreatDoorGa
import Derived.Test.YtigmcfhmpcajlaaGreatDoorWg
set_option linter.unusedSimpArgs false
set_option linter.unusedVariables false
namespace Go.Proofs
open Go.Am
variable (lb : Nat)
def icv (x : Int) : List CV := [.int .i64 x]
def ixF (x : Int) : Nat → List Int → Int
 | _, [] => -1
 | i, y :: t => if x == y then (i : Int) else ixF x (i + 1) t
theorem Qvp (x : Int) : ∀ (l : List Int) (i : Nat), decide (ixF x i l ≥ 0) = l.contains x
 | [], i => by simp [ixF]
 | y :: t, i => by
  unfold ixF
  rw [List.contains_cons]
  cases h : x == y with
  | true => simp
  | false => simpa using Qvp x t (i + 1)
theorem Qo5 (bn : Bool) (l : List Int) (x : Int) (hl : l.length ≤ 1000000) : Ret lb Qa6 [.list bn (l.map icv), .int .i64 x] (.int .i64 (ixF x 0 l)) :=
 .top rfl ((Evt.diag (QcT (enc := icv) (l := l) (P := fun p t n k => QdX lb n k bn (l.map icv) x (p.length : Int) = some (.int .i64 (ixF x p.length t))) (by omega)
  (.all fun n k => by
   rw [Qfu]
   refine stF (decF (by simp)) ?_
   rw [Qkr]; rfl)
  (fun p y t h h1 h2 h3 ih => ih.mono fun n hi k hk => by
   rw [Qfu]
   refine stT (decT h1) (stO _ h2 (stC rfl (stO _ rfl (stO _ (Qae ..) ?_))))
   unfold ixF
   cases hxy : x == y with
   | true => exact stT rfl rfl
   | false =>
    refine stF rfl ?_
    rw [h3, hi k hk]
    simp) l [] rfl)).mono fun n h => by rw [Qmo]; exact h)
theorem Qml (bn : Bool) (l : List Int) (x : Int) (hl : l.length ≤ 1000000) : Ret lb Qep [.list bn (l.map icv), .int .i64 x] (.bool (l.contains x)) :=
 .top rfl ((Qo5 lb bn l x hl).mono fun n h => by
  rw [QkH]
  refine stO _ h (stO _ (Qae ..) ?_)
  rw [Qvp])
theorem Qhg (l : List Int) : ∀ k, k ≤ l.length → ∀ g ∈ (Qbl (l.take k)).2.2, ∀ i ∈ g, 0 ≤ i ∧ i < (k : Int)
 | 0, _, g, hg => by simp [Qbl] at hg
 | k + 1, h, g, hg => by
  obtain ⟨x, hx⟩ : ∃ x, l[k]? = some x := ⟨_, List.getElem?_eq_getElem (by omega)⟩
  have ih := Qhg l k (by omega)
  rw [Qdu hx] at hg
  simp only [stepG] at hg
  rw [Qfx l k (by omega)] at hg
  intro i hi
  split at hg
  ·unfold QnS at hg
   rcases List.mem_append.1 hg with hg | hg
   ·have := ih g (List.dropLast_subset _ hg) i hi; omega
   ·simp only [List.mem_singleton] at hg
    subst hg
    rcases List.mem_append.1 hi with hi | hi
    ·cases hq : (Qbl (l.take k)).2.2.getLast? with
     | none => rw [hq] at hi; simp at hi
     | some g0 =>
      rw [hq] at hi
      have := ih g0 (List.mem_of_getLast? hq) i (by simpa using hi); omega
    ·simp only [List.mem_singleton] at hi; subst hi; omega
  ·rcases List.mem_append.1 hg with hg | hg
   ·have := ih g hg i hi; omega
   ·simp only [List.mem_singleton] at hg; subst hg
    simp only [List.mem_singleton] at hi; subst hi; omega
theorem Qo9 (bn : Bool) (l : List Int) (hl : l.length ≤ 1000000) : Ret lb QfP [.list bn (l.map icv)] (.list l.isEmpty ((Qa3 l).map Qf8)) :=
 .lib (s := Qg5) rfl (by
  have h : ∀ l : List Int, Qeb (l.map icv) = some l := fun l => by
   induction l with
   | nil => rfl
   | cons x l ih => simp [icv, Qeb] at ih ⊢; exact ih
  simp only [Qg5, h, if_pos (show l.length ≤ 1000000000000 by omega)])
end Go.Proofs
set_option linter.unusedSimpArgs false
set_option linter.unusedVariables false
namespace Go.Proofs
open Go.Am
variable (lb : Nat)
def nthI (l : List Int) (i : Int) : Int := (l[i.toNat]?).getD 0
theorem QfN {l : List Int} {i : Int} (h0 : 0 ≤ i) (h1 : i < (l.length : Int)) : atL (l.map icv) i = some (icv (nthI l i)) := by
 obtain ⟨k, rfl⟩ : ∃ k : Nat, i = k := ⟨i.toNat, by omega⟩
 have hk : l[k]? = some l[k] := List.getElem?_eq_getElem (by omega)
 refine Qcv ?_
 rw [List.getElem?_map, hk]
 simp [nthI, hk]
theorem Qva (l : List Int) : (l.map icv).all (·.length == 1) = true := by simp [icv]
def badG (l : List Int) (g : List Int) : Bool := decide (nthI l (g.headD 0) > 0) && (((g.length : Int) == 1) || (l.drop ((g.getLastD 0 + 1).toNat)).contains (nthI l (g.headD 0)))
def marE (l : List Int) : Int := if l.any (fun x => decide (x < 0)) then 2 else if (Qa3 l).any (badG l) then 18 else 0
theorem Qng (bn b : Bool) (l : List Int) (gs : List (List Int)) (hl : l.length ≤ 1000000) (hgs : gs.length ≤ 1000000) (hg : ∀ g ∈ gs, g ≠ [] ∧ g.length ≤ 1000000 ∧ ∀ i ∈ g, 0 ≤ i ∧ i < (l.length : Int)) :
  Evt fun n => QdB lb n n bn (l.map icv) (.list b (gs.map Qf8)) (b, gs.map Qf8) 0 = some (.int .i64 (if gs.any (badG l) then 18 else 0)) :=
 Evt.diag (QcT (enc := Qf8) (l := gs) (P := fun p t n k => QdB lb n k bn (l.map icv) (.list b (gs.map Qf8)) (b, gs.map Qf8) (p.length : Int) = some (.int .i64 (if t.any (badG l) then 18 else 0))) (by omega)
  (.all fun n k => by
   rw [Qhv]
   refine stF (decF (by simp)) ?_
   rw [Qn8]; rfl)
  (fun p g t h h1 h2 h3 ih => by
   obtain ⟨q1, q2, q3⟩ := hg g (by rw [← h]; simp)
   obtain ⟨a, r, rfl⟩ := List.exists_cons_of_ne_nil q1
   obtain ⟨a0, a1⟩ := q3 a (by simp)
   have hlast : (a :: r).getLast (by simp) ∈ a :: r := List.getLast_mem _
   obtain ⟨z, hz⟩ : ∃ z, (a :: r).getLast (by simp) = z := ⟨_, rfl⟩
   rw [hz] at hlast
   obtain ⟨z0, z1⟩ := q3 z hlast
   have hzD : (a :: r).getLastD 0 = z := by rw [← hz, List.getLastD_eq_getLast?, List.getLast?_eq_some_getLast (by simp)]; rfl
   have hzg : ((a :: r).map icv)[r.length]? = some (icv z) := by
    rw [List.getElem?_map, ← hz, List.getLast_eq_getElem]
    simp
   refine Evt.imp2 (Qml lb bn (l.drop (z + 1).toNat) (nthI l a) (by simp; omega)) ih fun n hc hi k hk => ?_
   have hi := hi k hk
   have hl1 : ((((a :: r).map icv).length : Nat) : Int) = (r.length : Int) + 1 := by simp
   have hw : IntKind.wrap .i64 ((((a :: r).map icv).length : Int) - 1) = (r.length : Int) := by
    simp only [List.length_cons] at q2
    rw [hl1, QaN (by omega) (by omega)]; omega
   have hw2 : IntKind.wrap .i64 (z + 1) = z + 1 := QaN (by omega) (by omega)
   have hdr : ((l.map icv).take (((l.map icv).length : Int).toNat)).drop (z + 1).toNat = (l.drop (z + 1).toNat).map icv := by
    rw [List.take_of_length_le (by simp), List.map_drop]
   have hb : badG l (a :: r) = (decide (nthI l a > 0) && ((((a :: r).length : Int) == 1) || (l.drop (z + 1).toNat).contains (nthI l a))) := by
    unfold badG
    rw [hzD]
    rfl
   rw [Qhv, List.any_cons, hb]
   refine stT (decT h1) (stO _ rfl (stO _ h2 (stC rfl (stO _ rfl (stO _ rfl (stO _ (Qcv (i := 0) (c := icv a) rfl) (stC rfl (stO _ rfl (stO _ rfl (stO _ (QfN a0 a1) (stC rfl (stO _ rfl (stO _ (Qae ..) ?_)))))))))))))
   cases hp : decide (nthI l a > 0) with
   | false =>
    refine stF rfl ?_
    rw [h3, hi]
    rfl
   | true =>
    refine stT rfl (stO _ rfl ?_)
    cases ho : (((a :: r).length : Int) == 1) with
    | true =>
     refine stT (by simpa using ho) ?_
     rfl
    | false =>
     refine stF (by simpa using ho) (stO _ rfl (stO _ rfl (stO (icv z) ?_ (stC rfl (stO _ rfl (stO _ (Qae ..) (stC (Qva l) (stC (decT ?_) (stO (.bool ((l.drop (z + 1).toNat).contains (nthI l a))) ?_ (stO _ (QaU _) ?_))))))))))
     ·show atL ((a :: r).map icv) (IntKind.wrap .i64 ((((a :: r).map icv).length : Int) - 1)) = _
      rw [hw]; exact Qcv hzg
     ·rw [hw2]; simp; omega
     ·rw [hw2, hdr]; exact hc
     ·cases hq : (l.drop (z + 1).toNat).contains (nthI l a) with
      | true => exact stT rfl rfl
      | false =>
       refine stF rfl ?_
       rw [h3, hi]
       rfl) gs [] rfl)
theorem Qqc (bn : Bool) (l : List Int) (hl : l.length ≤ 1000000) : Ret lb QaT [.list bn (l.map icv)] (.int .i64 (marE l)) := by
 have ok := Qev l l.length (Nat.le_refl _)
 have mem := Qhg l l.length (Nat.le_refl _)
 rw [List.take_length] at ok mem
 have hgs : ∀ g ∈ Qa3 l, g ≠ [] ∧ g.length ≤ 1000000 ∧ ∀ i ∈ g, 0 ≤ i ∧ i < (l.length : Int) := fun g hg => by
  obtain ⟨a, t, rfl, _⟩ := ok.heads g hg
  exact ⟨by simp, by have := ok.lens _ hg; omega, mem _ hg⟩
 have hlen : (Qa3 l).length ≤ 1000000 := by have := ok.len; unfold Qa3; omega
 exact .top rfl ((Evt.diag (QcT (enc := icv) (l := l) (P := fun p t n k => marry_Check_L1 lb n k bn (l.map icv) (p.length : Int) = some (.int .i64 (if t.any (fun x => decide (x < 0)) then 2 else if (Qa3 l).any (badG l) then 18 else 0))) (by omega)
  (Evt.imp2 (Qo9 lb bn l hl) (Qng lb bn l.isEmpty l (Qa3 l) hl hlen hgs) fun n h1 h2 k => by
   rw [Qhp]
   refine stF (decF (by simp)) ?_
   rw [Qoe]
   exact stO _ h1 (stO _ rfl h2))
  (fun p y t h h1 h2 h3 ih => ih.mono fun n hi k hk => by
   rw [Qhp, List.any_cons]
   refine stT (decT h1) (stO _ h2 (stC rfl (stO _ rfl (stO _ (Qae ..) ?_))))
   cases hy : decide (y < 0) with
   | true => exact stT rfl rfl
   | false =>
    refine stF rfl ?_
    rw [h3, hi k hk]
    rfl) l [] rfl)).mono fun n h => by rw [QqX]; exact h)
end Go.Proofs
