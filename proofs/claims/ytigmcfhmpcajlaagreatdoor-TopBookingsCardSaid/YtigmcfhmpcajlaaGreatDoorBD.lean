/- Chapter 35: the groups of marriage numbers cover all places in order; right numbers stand in one group alone. Conditions: as each says. -/
import Derived.Test.YtigmcfhmpcajlaaGreatDoorBB
set_option linter.unusedSimpArgs false
set_option linter.unusedVariables false
namespace Go.Proofs
open Go.Am
def upTo (k : Nat) : List Int := (List.range k).map fun (i : Nat) => (i : Int)
theorem QiZ (k : Nat) : upTo (k + 1) = upTo k ++ [(k : Int)] := by simp [upTo, List.range_succ]
theorem Qih {k : Nat} {i : Int} : i ∈ upTo k ↔ 0 ≤ i ∧ i < (k : Int) := by
 unfold upTo
 rw [List.mem_map]
 constructor
 ·rintro ⟨a, ha, rfl⟩
  have := List.mem_range.1 ha
  omega
 ·rintro ⟨h0, h1⟩
  exact ⟨i.toNat, List.mem_range.2 (by omega), by omega⟩
theorem Ql1 : ∀ k, (upTo k).Pairwise (· < ·)
 | 0 => by simp [upTo]
 | k + 1 => by
  rw [QiZ]
  refine List.pairwise_append.2 ⟨Ql1 k, by simp, fun a ha b hb => ?_⟩
  simp only [List.mem_singleton] at hb
  have := (Qih.1 ha).2
  omega
theorem QdW (l : List Int) : ∀ k, k ≤ l.length → (Qa2 (l.take k)).2.2.flatten = upTo k
 | 0, _ => rfl
 | k + 1, h => by
  obtain ⟨x, hx⟩ : ∃ x, l[k]? = some x := ⟨_, List.getElem?_eq_getElem (by omega)⟩
  have ih := QdW l k (by omega)
  have ok := Qc0 l k (by omega)
  rw [QcA hx]
  simp only [stepG]
  rw [Qdw l k (by omega), QiZ, ← ih]
  split
  ·rename_i hc
   rcases k with _ | k
   ·exfalso; have := hc.2; have h0 : (Qa2 (l.take 0)).2.1 = 0 := rfl; omega
   ·have hne := ok.some (by omega)
    generalize (Qa2 (l.take (k + 1))).2.2 = gs at hne
    rw [← List.dropLast_concat_getLast hne, QdD]
    simp
  ·simp
theorem Qj9 (l : List Int) : ∀ k, k ≤ l.length → ∀ g ∈ (Qa2 (l.take k)).2.2, ∀ i ∈ g, nthI l i = nthI l (g.headD 0)
 | 0, _, g, hg => by simp [Qa2] at hg
 | k + 1, h, g, hg => by
  obtain ⟨x, hx⟩ : ∃ x, l[k]? = some x := ⟨_, List.getElem?_eq_getElem (by omega)⟩
  have ih := Qj9 l k (by omega)
  have ok := Qc0 l k (by omega)
  have fl := QdW l k (by omega)
  rw [QcA hx] at hg
  simp only [stepG] at hg
  rw [Qdw l k (by omega)] at hg
  split at hg
  ·rename_i hc
   rcases k with _ | k
   ·exfalso; have := hc.2; have h0 : (Qa2 (l.take 0)).2.1 = 0 := rfl; omega
   ·have hne := ok.some (by omega)
    have hpr : (Qa2 (l.take (k + 1))).2.1 = nthI l (k : Int) := by
     obtain ⟨y, hy⟩ : ∃ y, l[k]? = some y := ⟨_, List.getElem?_eq_getElem (by omega)⟩
     rw [Qlc hy]; simp [nthI, hy]
    rw [hpr] at hc
    have hk1 : nthI l ((k + 1 : Nat) : Int) = x := by simp [nthI, hx]
    generalize (Qa2 (l.take (k + 1))).2.2 = gs at hne ih ok fl hg
    obtain ⟨A, g0, rfl⟩ : ∃ A g0, gs = A ++ [g0] := ⟨_, _, (List.dropLast_concat_getLast hne).symm⟩
    rw [QdD] at hg
    rcases List.mem_append.1 hg with hg | hg
    ·exact ih g (by simp [hg])
    ·simp only [List.mem_singleton] at hg
     subst hg
     obtain ⟨a, t, rfl, _⟩ := ok.heads g0 (by simp)
     have hk : (k : Int) ∈ a :: t := by
      have hlast : (A ++ [a :: t]).flatten.getLast? = (upTo (k + 1)).getLast? := by rw [fl]
      rw [QiZ] at hlast
      simp only [List.flatten_append, List.flatten_cons, List.flatten_nil, List.append_nil, List.getLast?_append] at hlast
      have h2 : (a :: t).getLast? = some ((a :: t).getLast (by simp)) := List.getLast?_eq_some_getLast (by simp)
      rw [h2] at hlast
      simp at hlast
      rw [← hlast]
      exact List.getLast_mem (by simp)
     intro i hi
     rcases List.mem_append.1 hi with hi | hi
     ·exact ih (a :: t) (by simp) i hi
     ·simp only [List.mem_singleton] at hi
      subst hi
      rw [hk1, ← hc.2]
      exact ih (a :: t) (by simp) _ hk
  ·rcases List.mem_append.1 hg with hg | hg
   ·exact ih g hg
   ·simp only [List.mem_singleton] at hg; subst hg
    intro i hi
    simp only [List.mem_singleton] at hi; subst hi
    rfl
theorem QqO {g : List Int} (h : g ≠ []) : g.getLastD 0 ∈ g := by
 rw [List.getLastD_eq_getLast?, List.getLast?_eq_some_getLast h]
 exact List.getLast_mem h
theorem QmF {l : List Int} (hm : marE l = 0) {g : List Int} (hg : g ∈ QaF l) {i j : Int} (hi : i ∈ g) (j0 : 0 ≤ j) (j1 : j < (l.length : Int)) (hp : nthI l i > 0) (he : nthI l j = nthI l i) : j ∈ g := by
 have fl := QdW l l.length (Nat.le_refl _)
 have sm := Qj9 l l.length (Nat.le_refl _)
 have mem := QdA l l.length (Nat.le_refl _)
 rw [List.take_length] at fl sm mem
 have lt := Ql1 l.length
 rw [← fl] at lt
 have bad : ∀ g ∈ QaF l, badG l g = false := fun g hg => by
  unfold marE at hm
  split at hm
  ·simp at hm
  ·split at hm
   ·simp at hm
   ·rename_i h; exact Bool.eq_false_iff.2 (List.any_eq_false.1 (Bool.eq_false_iff.2 h) g hg)
 have up : ∀ g ∈ QaF l, ∀ i ∈ g, ∀ j, 0 ≤ j → j < (l.length : Int) → nthI l i > 0 → nthI l j = nthI l i → i < j → j ∈ g := by
  intro g hg i hi j j0 j1 hp he hij
  obtain ⟨A, B, hAB⟩ := List.append_of_mem hg
  unfold QaF at hAB
  rw [hAB] at lt fl
  simp only [List.flatten_append, List.flatten_cons] at lt fl
  obtain ⟨p1, p2, p3⟩ := List.pairwise_append.1 lt
  obtain ⟨p4, p5, p6⟩ := List.pairwise_append.1 p2
  have hj : j ∈ upTo l.length := Qih.2 ⟨j0, j1⟩
  rw [← fl] at hj
  rcases List.mem_append.1 hj with hj | hj
  ·have := p3 j hj i (by simp [hi]); omega
  rcases List.mem_append.1 hj with hj | hj
  ·exact hj
  exfalso
  have hz := QqO (List.ne_nil_of_mem hi)
  have hzj := p6 _ hz j hj
  have hzr := mem g hg _ hz
  have hb := bad g hg
  unfold badG at hb
  rw [← sm g hg i hi, show decide (nthI l i > 0) = true from decide_eq_true hp] at hb
  simp only [Bool.true_and, Bool.or_eq_false_iff] at hb
  have hc := hb.2
  rw [← he] at hc
  have : nthI l j ∈ l.drop (g.getLastD 0 + 1).toNat := by
   rw [List.mem_iff_getElem?]
   refine ⟨j.toNat - (g.getLastD 0 + 1).toNat, ?_⟩
   rw [List.getElem?_drop, show (g.getLastD 0 + 1).toNat + (j.toNat - (g.getLastD 0 + 1).toNat) = j.toNat by omega]
   simp [nthI, List.getElem?_eq_getElem (show j.toNat < l.length by omega)]
  rw [List.contains_iff_mem.2 this] at hc
  cases hc
 rcases Int.lt_trichotomy i j with h | h | h
 ·exact up g hg i hi j j0 j1 hp he h
 ·exact h ▸ hi
 ·have hir := mem g hg i hi
  obtain ⟨A, B, hAB⟩ := List.append_of_mem hg
  have hAB2 := hAB
  unfold QaF at hAB
  rw [hAB] at lt fl
  simp only [List.flatten_append, List.flatten_cons] at lt fl
  obtain ⟨p1, p2, p3⟩ := List.pairwise_append.1 lt
  obtain ⟨p4, p5, p6⟩ := List.pairwise_append.1 p2
  have hj : j ∈ upTo l.length := Qih.2 ⟨j0, j1⟩
  rw [← fl] at hj
  rcases List.mem_append.1 hj with hj | hj
  ·obtain ⟨g2, hg2, hj2⟩ := List.mem_flatten.1 hj
   have := up g2 (by rw [hAB2]; simp [hg2]) j hj2 i hir.1 hir.2 (by omega) he.symm h
   have := p3 i (List.mem_flatten.2 ⟨g2, hg2, this⟩) i (by simp [hi])
   omega
  rcases List.mem_append.1 hj with hj | hj
  ·exact hj
  ·have := p6 i hi j hj; omega
theorem Qok {l : List Int} {g : List Int} (hg : g ∈ QaF l) : g.Pairwise (· < ·) := by
 have fl := QdW l l.length (Nat.le_refl _)
 rw [List.take_length] at fl
 have lt := Ql1 l.length
 rw [← fl] at lt
 obtain ⟨A, B, hAB⟩ := List.append_of_mem hg
 unfold QaF at hAB
 rw [hAB] at lt
 simp only [List.flatten_append, List.flatten_cons] at lt
 exact (List.pairwise_append.1 (List.pairwise_append.1 lt).2.1).1
theorem QoV {l : List Int} {x : Int} (h0 : 0 ≤ x) (h1 : x < (l.length : Int)) : ∃ g, (QaF l).find? (·.contains x) = some g := by
 have fl := QdW l l.length (Nat.le_refl _)
 rw [List.take_length] at fl
 have hj : x ∈ upTo l.length := Qih.2 ⟨h0, h1⟩
 rw [← fl] at hj
 obtain ⟨g, hg, hx⟩ := List.mem_flatten.1 hj
 cases hf : (QaF l).find? (·.contains x) with
 | some g => exact ⟨g, rfl⟩
 | none =>
  have := List.find?_eq_none.1 hf g hg
  simp at this
  exact absurd hx this
end Go.Proofs
set_option linter.unusedSimpArgs false
set_option linter.unusedVariables false
namespace Go.Proofs
open Go.Am
theorem Qow (e : Int) : ∀ (all : List Int) (l l' : List Sg), all.Pairwise (· < ·) → (∀ i ∈ all, 0 ≤ i) → chgF e all l = some l' → l'.length = l.length ∧
  (∀ k : Nat, (k : Int) ∉ all → l'[k]? = l[k]?) ∧ (∀ k : Nat, (k : Int) ∈ all → ∃ s, l[k]? = some s ∧ QaE s.st e ≠ 0 ∧ l'[k]? = some (Qbr s (QaE s.st e)))
 | [], l, l', _, _, h => by
  simp only [chgF, Option.some.injEq] at h
  subst h
  exact ⟨rfl, fun _ _ => rfl, fun _ hk => by simp at hk⟩
 | i :: r, l, l', hp, h0, h => by
  obtain ⟨hp1, hp2⟩ := List.pairwise_cons.1 hp
  have hi := h0 i (by simp)
  rw [show chgF e (i :: r) l = (match l[i.toNat]? with
   | some s => bif QaE s.st e == 0 then none else chgF e r (l.set i.toNat (Qbr s (QaE s.st e)))
   | none => none) from rfl] at h
  cases hs : l[i.toNat]? with
  | none => rw [hs] at h; simp at h
  | some s =>
   rw [hs] at h
   simp only at h
   cases ha : QaE s.st e == 0 with
   | true => rw [ha] at h; simp at h
   | false =>
    rw [ha] at h
    obtain ⟨q1, q2, q3⟩ := Qow e r _ l' hp2 (fun j hj => h0 j (by simp [hj])) h
    have hlt : i.toNat < l.length := (List.getElem?_eq_some_iff.1 hs).1
    refine ⟨by simpa using q1, fun k hk => ?_, fun k hk => ?_⟩
    ·simp only [List.mem_cons, not_or] at hk
     rw [q2 k hk.2, List.getElem?_set]
     have : i.toNat ≠ k := by omega
     simp [this]
    ·rcases List.mem_cons.1 hk with hk | hk
     ·subst hk
      have hn : ((k : Nat) : Int) ∉ r := fun hr => by have := hp1 _ hr; omega
      rw [Int.toNat_natCast] at hs hlt
      refine ⟨s, hs, by simpa using ha, ?_⟩
      rw [q2 k hn, Int.toNat_natCast, List.getElem?_set]
      simp [hlt]
     ·obtain ⟨t, ht, h1, h2⟩ := q3 k hk
      have := hp1 _ hk
      have hne : i.toNat ≠ k := by omega
      rw [List.getElem?_set] at ht
      simp [hne] at ht
      exact ⟨t, ht, h1, h2⟩
structure Stay (l l' : List Sg) : Prop where
 len : l'.length = l.length
 seg : ∀ (k : Nat) s s', l[k]? = some s → l'[k]? = some s' → s' = Qbr s s'.st ∧ (s.st = 7 → s'.st = 7)
 pair : ∀ (k m : Nat) s t s' t', l[k]? = some s → l[m]? = some t → l'[k]? = some s' → l'[m]? = some t' → s.mar > 0 → s.mar = t.mar → s.st = t.st → s'.st = t'.st
theorem Qe7 {l : List Sg} {k : Nat} {s : Sg} (h : l[k]? = some s) : nthI (mars l) (k : Int) = s.mar := by
 unfold nthI mars
 rw [Int.toNat_natCast, List.getElem?_map, h]
 rfl
theorem QoZ {l : List Sg} {x e : Int} (hm : marE (mars l) = 0) (h0 : 0 ≤ x) (h1 : x < (l.length : Int)) (h5 : e ≠ 5) (h6 : e ≠ 6) (h7 : e ≠ 7) : ∃ g ∈ QaF (mars l), x ∈ g ∧ allF l x e = g := by
 obtain ⟨g, hg⟩ := QoV (l := mars l) h0 (by simpa [mars] using h1)
 refine ⟨g, List.mem_of_find?_eq_some hg, by simpa using List.find?_some hg, ?_⟩
 unfold allF
 rw [show (e != 5 && (e != 6 && e != 7)) = true by simp [h5, h6, h7], if_pos hm, hg]
 rfl
theorem Qor {l l' : List Sg} {x e : Int} (hm : marE (mars l) = 0) (h0 : 0 ≤ x) (h1 : x < (l.length : Int)) (h5 : e ≠ 5) (h6 : e ≠ 6) (h7 : e ≠ 7) (h : chgF e (allF l x e) l = some l') : Stay l l' ∧ allF l x e ≠ [] := by
 obtain ⟨g, hg, hx, ha⟩ := QoZ hm h0 h1 h5 h6 h7
 rw [ha] at h ⊢
 have mem := QdA (mars l) (mars l).length (Nat.le_refl _)
 rw [List.take_length] at mem
 obtain ⟨q1, q2, q3⟩ := Qow e g l l' (Qok hg) (fun i hi => (mem g hg i hi).1) h
 have hml : (mars l).length = l.length := by simp [mars]
 refine ⟨⟨q1, fun k s s' hk hk' => ?_, fun k m s t s' t' hk hm2 hk' hm' hp he hst => ?_⟩, List.ne_nil_of_mem hx⟩
 ·by_cases hin : (k : Int) ∈ g
  ·obtain ⟨u, hu, a1, a2⟩ := q3 k hin
   rw [hk] at hu
   rw [hk'] at a2
   simp only [Option.some.injEq] at hu a2
   subst hu; subst a2
   refine ⟨rfl, fun h7' => ?_⟩
   rw [h7'] at a1
   exact absurd (Qls e) a1
  ·have := q2 k hin
   rw [hk, hk'] at this
   simp only [Option.some.injEq] at this
   subst this
   exact ⟨rfl, id⟩
 ·have hklt : k < l.length := (List.getElem?_eq_some_iff.1 hk).1
  have hmlt : m < l.length := (List.getElem?_eq_some_iff.1 hm2).1
  have both : (k : Int) ∈ g ↔ (m : Int) ∈ g := ⟨fun hi => QmF hm hg hi (by omega) (by omega) (by rw [Qe7 hk]; exact hp) (by rw [Qe7 hk, Qe7 hm2, he]),
   fun hi => QmF hm hg hi (by omega) (by omega) (by rw [Qe7 hm2, ← he]; exact hp) (by rw [Qe7 hk, Qe7 hm2, he])⟩
  by_cases hin : (k : Int) ∈ g
  ·obtain ⟨u, hu, a1, a2⟩ := q3 k hin
   obtain ⟨v, hv, b1, b2⟩ := q3 m (both.1 hin)
   rw [hk] at hu
   rw [hk'] at a2
   rw [hm2] at hv
   rw [hm'] at b2
   simp only [Option.some.injEq] at hu a2 hv b2
   subst hu; subst a2; subst hv; subst b2
   show QaE s.st e = QaE t.st e
   rw [hst]
  ·have a := q2 k hin
   have b := q2 m (fun hi => hin (both.2 hi))
   rw [hk, hk'] at a
   rw [hm2, hm'] at b
   simp only [Option.some.injEq] at a b
   subst a; subst b
   exact hst
theorem QpB {l l' : List Sg} (h : Stay l l') : mars l' = mars l := by
 refine List.ext_getElem? fun k => ?_
 unfold mars
 rw [List.getElem?_map, List.getElem?_map]
 cases hk : l[k]? with
 | none =>
  have : l'[k]? = none := by rw [List.getElem?_eq_none_iff] at hk ⊢; rw [h.len]; exact hk
  rw [this]
 | some s =>
  have hlt : k < l'.length := by rw [h.len]; exact (List.getElem?_eq_some_iff.1 hk).1
  have hk' : l'[k]? = some l'[k] := List.getElem?_eq_getElem hlt
  rw [hk']
  have := (h.seg k s _ hk hk').1
  rw [this]; rfl
end Go.Proofs
