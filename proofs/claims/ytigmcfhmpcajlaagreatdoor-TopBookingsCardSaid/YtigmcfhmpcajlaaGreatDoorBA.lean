/- Chapter 35: lists of numbers on plain data: index, contains; the groups' numbers lie in their list. Conditions: as each says. -/
import Derived.Test.YtigmcfhmpcajlaaGreatDoorRk
import Derived.Test.YtigmcfhmpcajlaaGreatDoorGa
import Derived.Test.YtigmcfhmpcajlaaGreatDoorWg
import Derived.Test.YtigmcfhmpcajlaaGreatDoorGf
set_option linter.unusedSimpArgs false
set_option linter.unusedVariables false
namespace Go.Proofs
open Go.Am
variable (lb : Nat)
def icv (x : Int) : List CV := [.int .i64 x]
def ixF (x : Int) : Nat → List Int → Int
 | _, [] => -1
 | i, y :: t => if x == y then (i : Int) else ixF x (i + 1) t
theorem QoL (x : Int) : ∀ (l : List Int) (i : Nat), decide (ixF x i l ≥ 0) = l.contains x
 | [], i => by simp [ixF]
 | y :: t, i => by
  unfold ixF
  rw [List.contains_cons]
  cases h : x == y with
  | true => simp
  | false => simpa using QoL x t (i + 1)
theorem Qkq (bn : Bool) (l : List Int) (x : Int) (hl : l.length ≤ 1000000) : Ret lb QaH [.list bn (l.map icv), .int .i64 x] (.int .i64 (ixF x 0 l)) :=
 .top rfl ((Evt.diag (Qfs (enc := icv) (l := l) (P := fun p t n k => Qcu lb n k bn (l.map icv) x (p.length : Int) = some (.int .i64 (ixF x p.length t))) (by omega)
  (.all fun n k => by
   rw [Qdq]
   refine stF (decF (by simp)) ?_
   rw [QgY]; rfl)
  (fun p y t h h1 h2 h3 ih => ih.mono fun n hi k hk => by
   rw [Qdq]
   refine stT (decT h1) (stO _ h2 (stC rfl (stO _ rfl (stO _ (Qaq ..) ?_))))
   unfold ixF
   cases hxy : x == y with
   | true => exact stT rfl rfl
   | false =>
    refine stF rfl ?_
    rw [h3, hi k hk]
    simp) l [] rfl)).mono fun n h => by rw [QiN]; exact h)
theorem QeR (bn : Bool) (l : List Int) (x : Int) (hl : l.length ≤ 1000000) : Ret lb Qb5 [.list bn (l.map icv), .int .i64 x] (.bool (l.contains x)) :=
 .top rfl ((Qkq lb bn l x hl).mono fun n h => by
  rw [Qg2]
  refine stO _ h (stO _ (Qaq ..) ?_)
  rw [QoL])
theorem QdA (l : List Int) : ∀ k, k ≤ l.length → ∀ g ∈ (Qa2 (l.take k)).2.2, ∀ i ∈ g, 0 ≤ i ∧ i < (k : Int)
 | 0, _, g, hg => by simp [Qa2] at hg
 | k + 1, h, g, hg => by
  obtain ⟨x, hx⟩ : ∃ x, l[k]? = some x := ⟨_, List.getElem?_eq_getElem (by omega)⟩
  have ih := QdA l k (by omega)
  rw [QcA hx] at hg
  simp only [stepG] at hg
  rw [Qdw l k (by omega)] at hg
  intro i hi
  split at hg
  ·unfold Qhn at hg
   rcases List.mem_append.1 hg with hg | hg
   ·have := ih g (List.dropLast_subset _ hg) i hi; omega
   ·simp only [List.mem_singleton] at hg
    subst hg
    rcases List.mem_append.1 hi with hi | hi
    ·cases hq : (Qa2 (l.take k)).2.2.getLast? with
     | none => rw [hq] at hi; simp at hi
     | some g0 =>
      rw [hq] at hi
      have := ih g0 (List.mem_of_getLast? hq) i (by simpa using hi); omega
    ·simp only [List.mem_singleton] at hi; subst hi; omega
  ·rcases List.mem_append.1 hg with hg | hg
   ·have := ih g hg i hi; omega
   ·simp only [List.mem_singleton] at hg; subst hg
    simp only [List.mem_singleton] at hi; subst hi; omega
theorem Qgz (bn : Bool) (l : List Int) (hl : l.length ≤ 1000000) : Ret lb QcR [.list bn (l.map icv)] (.list l.isEmpty ((QaF l).map Qcd)) :=
 .lib (s := Qey) rfl (by
  have h : ∀ l : List Int, Qcb (l.map icv) = some l := fun l => by
   induction l with
   | nil => rfl
   | cons x l ih => simp [icv, Qcb] at ih ⊢; exact ih
  simp only [Qey, h, if_pos (show l.length ≤ 1000000000000 by omega)])
end Go.Proofs
set_option linter.unusedSimpArgs false
set_option linter.unusedVariables false
namespace Go.Proofs
open Go.Am
variable (lb : Nat)
def nthI (l : List Int) (i : Int) : Int := (l[i.toNat]?).getD 0
theorem Qrq {l : List Int} {i : Int} (h0 : 0 ≤ i) (h1 : i < (l.length : Int)) : atL (l.map icv) i = some (icv (nthI l i)) := by
 obtain ⟨k, rfl⟩ : ∃ k : Nat, i = k := ⟨i.toNat, by omega⟩
 have hk : l[k]? = some l[k] := List.getElem?_eq_getElem (by omega)
 refine QbP ?_
 rw [List.getElem?_map, hk]
 simp [nthI, hk]
theorem Qob (l : List Int) : (l.map icv).all (·.length == 1) = true := by simp [icv]
def badG (l : List Int) (g : List Int) : Bool := decide (nthI l (g.headD 0) > 0) && (((g.length : Int) == 1) || (l.drop ((g.getLastD 0 + 1).toNat)).contains (nthI l (g.headD 0)))
def marE (l : List Int) : Int := if l.any (fun x => decide (x < 0)) then 2 else if (QaF l).any (badG l) then 18 else 0
theorem Qjr (bn b : Bool) (l : List Int) (gs : List (List Int)) (hl : l.length ≤ 1000000) (hgs : gs.length ≤ 1000000) (hg : ∀ g ∈ gs, g ≠ [] ∧ g.length ≤ 1000000 ∧ ∀ i ∈ g, 0 ≤ i ∧ i < (l.length : Int)) :
  Evt fun n => Qcn lb n n bn (l.map icv) (.list b (gs.map Qcd)) (b, gs.map Qcd) 0 = some (.int .i64 (if gs.any (badG l) then 18 else 0)) :=
 Evt.diag (Qfs (enc := Qcd) (l := gs) (P := fun p t n k => Qcn lb n k bn (l.map icv) (.list b (gs.map Qcd)) (b, gs.map Qcd) (p.length : Int) = some (.int .i64 (if t.any (badG l) then 18 else 0))) (by omega)
  (.all fun n k => by
   rw [QeM]
   refine stF (decF (by simp)) ?_
   rw [QjR]; rfl)
  (fun p g t h h1 h2 h3 ih => by
   obtain ⟨q1, q2, q3⟩ := hg g (by rw [← h]; simp)
   obtain ⟨a, r, rfl⟩ := List.exists_cons_of_ne_nil q1
   obtain ⟨a0, a1⟩ := q3 a (by simp)
   have hlast : (a :: r).getLast (by simp) ∈ a :: r := List.getLast_mem _
   obtain ⟨z, hz⟩ : ∃ z, (a :: r).getLast (by simp) = z := ⟨_, rfl⟩
   rw [hz] at hlast
   obtain ⟨z0, z1⟩ := q3 z hlast
   have hzD : (a :: r).getLastD 0 = z := by rw [← hz, List.getLastD_eq_getLast?, List.getLast?_eq_some_getLast (by simp)]; rfl
   have hzg : ((a :: r).map icv)[r.length]? = some (icv z) := by
    rw [List.getElem?_map, ← hz, List.getLast_eq_getElem]
    simp
   refine Evt.imp2 (QeR lb bn (l.drop (z + 1).toNat) (nthI l a) (by simp; omega)) ih fun n hc hi k hk => ?_
   have hi := hi k hk
   have hl1 : ((((a :: r).map icv).length : Nat) : Int) = (r.length : Int) + 1 := by simp
   have hw : IntKind.wrap .i64 ((((a :: r).map icv).length : Int) - 1) = (r.length : Int) := by
    simp only [List.length_cons] at q2
    rw [hl1, Qba (by omega) (by omega)]; omega
   have hw2 : IntKind.wrap .i64 (z + 1) = z + 1 := Qba (by omega) (by omega)
   have hdr : ((l.map icv).take (((l.map icv).length : Int).toNat)).drop (z + 1).toNat = (l.drop (z + 1).toNat).map icv := by
    rw [List.take_of_length_le (by simp), List.map_drop]
   have hb : badG l (a :: r) = (decide (nthI l a > 0) && ((((a :: r).length : Int) == 1) || (l.drop (z + 1).toNat).contains (nthI l a))) := by
    unfold badG
    rw [hzD]
    rfl
   rw [QeM, List.any_cons, hb]
   refine stT (decT h1) (stO _ rfl (stO _ h2 (stC rfl (stO _ rfl (stO _ rfl (stO _ (QbP (i := 0) (c := icv a) rfl) (stC rfl (stO _ rfl (stO _ rfl (stO _ (Qrq a0 a1) (stC rfl (stO _ rfl (stO _ (Qaq ..) ?_)))))))))))))
   cases hp : decide (nthI l a > 0) with
   | false =>
    refine stF rfl ?_
    rw [h3, hi]
    rfl
   | true =>
    refine stT rfl (stO _ rfl ?_)
    cases ho : (((a :: r).length : Int) == 1) with
    | true =>
     refine stT (by simpa using ho) ?_
     rfl
    | false =>
     refine stF (by simpa using ho) (stO _ rfl (stO _ rfl (stO (icv z) ?_ (stC rfl (stO _ rfl (stO _ (Qaq ..) (stC (Qob l) (stC (decT ?_) (stO (.bool ((l.drop (z + 1).toNat).contains (nthI l a))) ?_ (stO _ (Qbl _) ?_))))))))))
     ·show atL ((a :: r).map icv) (IntKind.wrap .i64 ((((a :: r).map icv).length : Int) - 1)) = _
      rw [hw]; exact QbP hzg
     ·rw [hw2]; simp; omega
     ·rw [hw2, hdr]; exact hc
     ·cases hq : (l.drop (z + 1).toNat).contains (nthI l a) with
      | true => exact stT rfl rfl
      | false =>
       refine stF rfl ?_
       rw [h3, hi]
       rfl) gs [] rfl)
theorem QgR (bn : Bool) (l : List Int) (hl : l.length ≤ 1000000) : Ret lb QaB [.list bn (l.map icv)] (.int .i64 (marE l)) := by
 have ok := Qc0 l l.length (Nat.le_refl _)
 have mem := QdA l l.length (Nat.le_refl _)
 rw [List.take_length] at ok mem
 have hgs : ∀ g ∈ QaF l, g ≠ [] ∧ g.length ≤ 1000000 ∧ ∀ i ∈ g, 0 ≤ i ∧ i < (l.length : Int) := fun g hg => by
  obtain ⟨a, t, rfl, _⟩ := ok.heads g hg
  exact ⟨by simp, by have := ok.lens _ hg; omega, mem _ hg⟩
 have hlen : (QaF l).length ≤ 1000000 := by have := ok.len; unfold QaF; omega
 exact .top rfl ((Evt.diag (Qfs (enc := icv) (l := l) (P := fun p t n k => marry_Check_L1 lb n k bn (l.map icv) (p.length : Int) = some (.int .i64 (if t.any (fun x => decide (x < 0)) then 2 else if (QaF l).any (badG l) then 18 else 0))) (by omega)
  (Evt.imp2 (Qgz lb bn l hl) (Qjr lb bn l.isEmpty l (QaF l) hl hlen hgs) fun n h1 h2 k => by
   rw [QeN]
   refine stF (decF (by simp)) ?_
   rw [QjQ]
   exact stO _ h1 (stO _ rfl h2))
  (fun p y t h h1 h2 h3 ih => ih.mono fun n hi k hk => by
   rw [QeN, List.any_cons]
   refine stT (decT h1) (stO _ h2 (stC rfl (stO _ rfl (stO _ (Qaq ..) ?_))))
   cases hy : decide (y < 0) with
   | true => exact stT rfl rfl
   | false =>
    refine stF rfl ?_
    rw [h3, hi k hk]
    rfl) l [] rfl)).mono fun n h => by rw [QlP]; exact h)
end Go.Proofs
set_option linter.unusedSimpArgs false
set_option linter.unusedVariables false
namespace Go.Proofs
open Go.Am
variable (lb : Nat)
def Qf7 (l : List Int) : CV := if marE l = 0 then .tup [.list l.isEmpty ((QaF l).map Qcd), .int .i64 0] else .tup [.list true [], .int .i64 (marE l)]
theorem Qgb (bn : Bool) (l : List Int) (hl : l.length ≤ 1000000) : Ret lb QeZ [.list bn (l.map icv)] (Qf7 l) :=
 .top rfl (Evt.imp2 (QgR lb bn l hl) (Qgz lb bn l hl) fun n h1 h2 => by
  rw [Qlw]
  refine stO _ h1 (stO _ (Qaq ..) ?_)
  unfold Qf7
  by_cases h : marE l = 0
  ·rw [if_pos h]
   exact stF (bneF h) (stO _ h2 rfl)
  ·rw [if_neg h]
   exact stT (bneT h) rfl)
def Qez (l : List Int) (x : Int) : CV := if marE l = 0 then (match (QaF l).find? (·.contains x) with
 | some g => .tup [.list false (g.map icv), .int .i64 0]
 | none => .tup [.list true [], .int .i64 2]) else .tup [.list true [], .int .i64 (marE l)]
theorem QlJ (bn : Bool) (l : List Int) (x : Int) (hl : l.length ≤ 1000000) : Ret lb Qa8 [.list bn (l.map icv), .int .i64 x] (Qez l x) := by
 have ok := Qc0 l l.length (Nat.le_refl _)
 rw [List.take_length] at ok
 have hlens : ∀ g ∈ QaF l, g.length ≤ 1000000 := fun g hg => by have := ok.lens _ hg; omega
 have hlen : (QaF l).length ≤ 1000000 := by have := ok.len; unfold QaF; omega
 obtain ⟨gs, hgs⟩ : ∃ gs, QaF l = gs := ⟨_, rfl⟩
 by_cases he : marE l = 0
 ·have hw : Qez l x = (match gs.find? (·.contains x) with
   | some g => .tup [.list false (g.map icv), .int .i64 0]
   | none => .tup [.list true [], .int .i64 2]) := by unfold Qez; rw [if_pos he, hgs]
  have hv : Qf7 l = .tup [.list l.isEmpty (gs.map Qcd), .int .i64 0] := by unfold Qf7; rw [if_pos he, hgs]
  rw [hgs] at hlens hlen
  have hG := Qgb lb bn l hl
  rw [hv] at hG
  rw [hw]
  refine .top rfl (Evt.imp2 hG (Evt.diag (Qfs (enc := Qcd) (l := gs) (P := fun p t n k => Qeb lb n k bn (l.map icv) x (.list l.isEmpty (gs.map Qcd)) (.int .i64 0) (.tup [.list l.isEmpty (gs.map Qcd), .int .i64 0]) (l.isEmpty, gs.map Qcd) (p.length : Int) = some (match t.find? (·.contains x) with
   | some g => .tup [.list false (g.map icv), .int .i64 0]
   | none => .tup [.list true [], .int .i64 2])) (by omega)
   (.all fun n k => by
    rw [QfN]
    refine stF (decF (by simp)) ?_
    rw [QkA]; rfl)
   (fun p g t h h1 h2 h3 ih => Evt.imp2 (QeR lb false g x (hlens g (by rw [← h]; simp))) ih fun n hc hi k hk => by
    rw [QfN, List.find?_cons]
    refine stT (decT h1) (stO _ rfl (stO _ h2 (stC rfl (stO _ rfl (stO _ hc (stO _ (Qbl _) ?_))))))
    cases hq : g.contains x with
    | true => exact stT rfl rfl
    | false =>
     refine stF rfl ?_
     rw [h3, hi k hk]) gs [] rfl)) fun n h1 h2 => by
    rw [QiI]
    exact stO _ h1 (stO _ rfl (stO _ rfl (stO _ rfl (stO _ rfl (stO _ rfl (stF rfl (stO _ rfl h2))))))))
 ·have hv : Qf7 l = .tup [.list true [], .int .i64 (marE l)] := by unfold Qf7; rw [if_neg he]
  have hw : Qez l x = .tup [.list true [], .int .i64 (marE l)] := by unfold Qez; rw [if_neg he]
  have hG := Qgb lb bn l hl
  rw [hv] at hG
  rw [hw]
  exact .top rfl (hG.mono fun n h => by
   rw [QiI]
   exact stO _ h (stO _ rfl (stO _ rfl (stO _ rfl (stO _ rfl (stO _ (Qaq ..) (stT (bneT he) rfl)))))))
end Go.Proofs
set_option linter.unusedSimpArgs false
set_option linter.unusedVariables false
namespace Go.Proofs
open Go.Am
variable (lb : Nat)
theorem Qp3 : Evt fun n => ∀ a : Int, C lb n Qdj [.int .i64 a] = some (.bool false) :=
 .from 1 fun n a => by
  rw [Qpd lb n _ _ rfl, Qky]
  simp
theorem Qqz : Evt fun n => ∀ a b : Int, C lb n Qfb [.int .i64 a, .int .i64 b] = some (.bool (decide (a < b))) := by
 obtain ⟨N, hN⟩ := Qp3 lb
 refine ⟨N + 1, fun n hn a b => ?_⟩
 obtain ⟨m, rfl⟩ : ∃ m, n = m + 1 := ⟨n - 1, by omega⟩
 rw [Qpd lb m _ _ rfl, Qly]
 exact stO _ (hN m (by omega) a) (stO _ (Qbl _) (stF rfl rfl))
def Asc (l : List Int) : Prop := ∀ (i : Nat) a b, l[i]? = some a → l[i + 1]? = some b → a ≤ b
theorem Qjf (bn : Bool) (l : List Int) (hl : l.length ≤ 1000000) (hs : Asc l) : ∀ (m i : Nat), i + m = l.length → 1 ≤ i → Evt fun n => ∀ k, m < k → QaX lb n k bn (l.map icv) 0 (l.length : Int) (i : Int) = some (.tup [])
 | 0, i, h, h1 => .all fun n k hk => by
  obtain ⟨k, rfl⟩ : ∃ m, k = m + 1 := ⟨k - 1, by omega⟩
  rw [Qa7]
  exact stF (decF (by omega)) rfl
 | m + 1, i, h, h1 => by
  refine ((Qqz lb).and (Evt.ge 1)).imp2 (Qjf bn l hl hs m (i + 1) (by omega) (by omega)) fun n hl2 hi k hk => ?_
  obtain ⟨k, rfl⟩ : ∃ m, k = m + 1 := ⟨k - 1, by omega⟩
  obtain ⟨n', rfl⟩ : ∃ m, n = m + 1 := ⟨n - 1, by have := hl2.2; omega⟩
  have hi := hi k (by omega)
  obtain ⟨b, hb⟩ : ∃ b, l[i]? = some b := ⟨_, List.getElem?_eq_getElem (by omega)⟩
  obtain ⟨a, ha⟩ : ∃ a, l[i - 1]? = some a := ⟨_, List.getElem?_eq_getElem (by omega)⟩
  have hab := hs (i - 1) a b ha (by rw [show i - 1 + 1 = i by omega]; exact hb)
  have hw : IntKind.wrap .i64 ((i : Int) - 1) = ((i - 1 : Nat) : Int) := by rw [Qba (by omega) (by omega)]; omega
  have hw1 : IntKind.wrap .i64 ((i : Int) + 1) = ((i + 1 : Nat) : Int) := by rw [Qba (by omega) (by omega)]; omega
  have atI : atL (l.map icv) (i : Int) = some (icv b) := QbP (by rw [List.getElem?_map, hb]; rfl)
  have atP : atL (l.map icv) ((i - 1 : Nat) : Int) = some (icv a) := QbP (by rw [List.getElem?_map, ha]; rfl)
  rw [Qa7]
  refine stT (decT (by omega)) ?_
  rw [Qc8, hw]
  refine stT (decT (by omega)) (stO _ atI (stC rfl (stO _ rfl (stO _ atP (stC rfl (stO _ rfl (stO _ (hl2.1 b a) (stO _ (Qbl _) (stF (decF (by omega)) ?_)))))))))
  rw [Qdo, hw1]
  exact hi
theorem Qm0 (bn : Bool) (l : List Int) (hl : l.length ≤ 1000000) (hs : Asc l) : Ret lb Qaf [.list bn (l.map icv), .int .i64 0, .int .i64 (l.length : Int)] (.tup []) := by
 rcases Nat.eq_zero_or_pos l.length with h0 | h0
 ·refine .top rfl ((Evt.ge 1).mono fun n hn => ?_)
  obtain ⟨n, rfl⟩ : ∃ m, n = m + 1 := ⟨n - 1, by omega⟩
  rw [Qca, Qa7, Qba (by omega) (by omega), h0]
  exact stF (decF (by omega)) rfl
 ·refine .top rfl ((Evt.diag (Qjf lb bn l hl hs (l.length - 1) 1 (by omega) (Nat.le_refl _))).mono fun n h => ?_)
  rw [Qca, Qba (by omega) (by omega)]
  exact h
set_option maxRecDepth 100000 in
theorem Qop (m : Nat) (hm : m ≤ 255) : ∃ r, Ret lb QeF [.int .u64 (m : Int)] (.int .i64 r) := by
 have hw8 : IntKind.wrap .u8 (m : Int) = (m : Int) := by
  unfold IntKind.wrap
  simp [IntKind.bits, IntKind.signed]
  omega
 have key : ∃ r, QcJ lb 0 (m : Int) 0 = some (.int .i64 r) := by
  rw [QcQ, hw8]
  apply Exists.intro
  refine stF (decF (by omega)) (stO _ (Qp0 (List.getElem?_eq_getElem ?_)) rfl)
  exact Nat.lt_of_lt_of_le (show m < 256 by omega) (Nat.le_of_eq (by kernel_rfl))
 obtain ⟨r, key⟩ := key
 have h : ∃ r, Ret lb QaW [.int .u64 (m : Int)] (.int .i64 r) := by
  refine ⟨r, .top rfl (.all fun n => ?_)⟩
  rw [QiY]
  refine stF (decF (by omega)) ?_
  rw [Qhr]
  refine stF (decF (by omega)) ?_
  rw [← key, QcQ, QcQ]
 obtain ⟨r, h⟩ := h
 exact ⟨r, .top rfl (h.mono fun n h => by rw [QkF]; exact stO _ h rfl)⟩
theorem QkL (bn : Bool) (l : List Int) (hl : l.length ≤ 12) (hs : Asc l) : Ret lb QcP [.list bn (l.map icv)] (.tup []) := by
 obtain ⟨r, hr⟩ := Qop lb l.length (by omega)
 have hp : Ret lb Qap [.list bn (l.map icv), .int .i64 0, .int .i64 (l.length : Int), .int .i64 r] (.tup []) :=
  .top rfl (((Qm0 lb bn l (by omega) hs).and (Evt.ge 1)).mono fun n ⟨h, hn⟩ => by
   obtain ⟨n', rfl⟩ : ∃ m, n = m + 1 := ⟨n - 1, by omega⟩
   rw [Qfg, Qd6]
   refine stO _ (Qaq ..) (stO _ (Qaq ..) (stT (decT ?_) (stO _ h rfl)))
   rw [Qba (by omega) (by omega)]; omega)
 refine .top rfl (Evt.imp2 hr hp fun n h1 h2 => ?_)
 rw [QiX]
 have hlen : (((l.map icv).length : Nat) : Int) = (l.length : Int) := by simp
 have hw : IntKind.wrap .u64 (l.length : Int) = (l.length : Int) := by
  unfold IntKind.wrap
  simp [IntKind.bits, IntKind.signed]
  omega
 rw [hlen, hw]
 exact stO _ h1 (stO _ h2 rfl)
end Go.Proofs
