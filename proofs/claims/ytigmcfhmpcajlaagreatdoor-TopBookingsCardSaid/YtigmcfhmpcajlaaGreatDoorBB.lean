/- Chapter 35: statuses on plain data. Conditions: as each says. -/
import Derived.Test.YtigmcfhmpcajlaaGreatDoorRk
import Derived.Test.YtigmcfhmpcajlaaGreatDoorGa
import Derived.Test.YtigmcfhmpcajlaaGreatDoorBA
import Derived.Test.YtigmcfhmpcajlaaGreatDoorGd
set_option linter.unusedSimpArgs false
set_option linter.unusedVariables false
namespace Go.Proofs
open Go.Am
variable (lb : Nat)
def QjG (e : Int) : Int := bif e == 6 then 5 else bif e == 8 then 7 else 0
def QaE (s e : Int) : Int :=
 bif s == 0 then (bif e == 1 then 1 else bif e == 2 then 2 else 0) else
 bif s == 3 then (bif e == 7 then 1 else bif e == 5 then 4 else QjG e) else
 bif s == 4 then (bif e == 7 then 1 else bif e == 5 then 4 else QjG e) else
 bif s == 1 then (bif e == 5 then 4 else QjG e) else
 bif s == 2 then (bif e == 3 then 3 else bif e == 4 then 6 else QjG e) else
 bif s == 5 then (bif e == 1 then 1 else bif e == 8 then 7 else 0) else
 bif s == 6 then (bif e == 8 then 7 else 0) else 0
def QgK (s e : Int) : CV := bif QaE s e == 0 then .tup [.int .i64 0, .int .i64 10] else .tup [.int .i64 (QaE s e), .int .i64 0]
def QgN (s : Int) : Bool := bif s == 1 then true else bif s == 3 then true else s == 4
def QjB (s : Int) : Bool := bif QgN s then true else s == 2
theorem Qom (e : Int) : Ret lb QbQ [.int .i64 e] (.int .i64 (QjG e)) :=
 .top rfl (.all fun n => by
  rw [Qj3]; unfold QjG
  cases e == 6 with
  | true => rfl
  | false => cases e == 8 <;> rfl)
theorem Qqd (s e : Int) : Ret lb QeW [.int .i64 s, .int .i64 e] (.int .i64 (QaE s e)) :=
 .top rfl ((Qom lb e).mono fun n h => by
  rw [Qk1, h]; unfold QaE
  cases s == 0 with
  | true => cases e == 1 with
   | true => rfl
   | false => cases e == 2 <;> rfl
  | false => cases s == 3 with
   | true => cases e == 7 with
    | true => rfl
    | false => cases e == 5 <;> rfl
   | false => cases s == 4 with
    | true => cases e == 7 with
     | true => rfl
     | false => cases e == 5 <;> rfl
    | false => cases s == 1 with
     | true => cases e == 5 <;> rfl
     | false => cases s == 2 with
      | true => cases e == 3 with
       | true => rfl
       | false => cases e == 4 <;> rfl
      | false => cases s == 5 with
       | true => cases e == 1 with
        | true => rfl
        | false => cases e == 8 <;> rfl
       | false => cases s == 6 with
        | true => cases e == 8 <;> rfl
        | false => rfl)
theorem Qgt (s e : Int) : Ret lb Qcz [.int .i64 s, .int .i64 e] (QgK s e) :=
 .top rfl ((Qqd lb s e).mono fun n h => by
  rw [QlG]
  refine stO _ h (stO _ (Qaq ..) ?_)
  unfold QgK
  cases QaE s e == 0 <;> rfl)
theorem Qnr (s : Int) : Ret lb Qcw [.int .i64 s] (.bool (QgN s)) :=
 .top rfl (.all fun n => by
  rw [Ql2]; unfold QgN
  cases s == 1 with
  | true => rfl
  | false => cases s == 3 <;> rfl)
theorem Qqr (s : Int) : Ret lb Qda [.int .i64 s] (.bool (QjB s)) :=
 .top rfl ((Qnr lb s).mono fun n h => by
  rw [QlY]
  refine stO _ h (stO _ (Qbl _) ?_)
  unfold QjB
  cases QgN s <;> rfl)
theorem QpA {s : Int} (h : QgN s = true) : QjB s = true := by unfold QjB; rw [h]; rfl
theorem Qls (e : Int) : QaE 7 e = 0 := rfl
end Go.Proofs
set_option linter.unusedSimpArgs false
set_option linter.unusedVariables false
namespace Go.Proofs
open Go.Am
variable (lb : Nat)
structure Sg where
 car : Bs
 num : Int
 day : Int
 fr : Bs
 to : Bs
 dep : Int
 arr : Int
 cls : Bs
 st : Int
 mar : Int
def sgE (s : Sg) : List CV := [.str s.car, .int .i64 s.num, .int .i64 s.day, .str s.fr, .str s.to, .int .i64 s.dep, .int .i64 s.arr, .str s.cls, .int .i64 s.st, .int .i64 s.mar]
def mars (l : List Sg) : List Int := l.map Sg.mar
theorem Qiu (bn : Bool) (l : List Sg) (hl : l.length ≤ 1000000) : Ret lb QaD [.list bn (l.map sgE)] (.list false ((mars l).map icv)) :=
 .top rfl ((Evt.diag (Qfs (enc := sgE) (l := l) (P := fun p t n k => Qcf lb n k bn (l.map sgE) ((mars p).map icv) (p.length : Int) = some (.list false ((mars l).map icv))) (by omega)
  (.all fun n k => by
   rw [Qdm]
   refine stF (decF (by simp)) ?_
   rw [QgA])
  (fun p x t h h1 h2 h3 ih => ih.mono fun n hi k hk => by
   have hpl : p.length + (t.length + 1) = l.length := by rw [← h]; simp
   rw [Qdm]
   refine stT (decT h1) (stO _ h2 (stC rfl (stO _ rfl (stO _ rfl (stO _ rfl (stO _ rfl (stO _ rfl (stO _ rfl (stO _ rfl (stO _ rfl (stO _ rfl (stO _ rfl (stC rfl (stC ?_ ?_))))))))))))))
   ·simp [room, mars]; omega
   ·rw [h3]
    have := hi k hk
    simpa [mars, icv] using this) l [] rfl)).mono fun n h => by
   rw [QhZ]
   refine stC ?_ h
   simp; omega)
end Go.Proofs
set_option linter.unusedSimpArgs false
set_option linter.unusedVariables false
namespace Go.Proofs
open Go.Am
variable (lb : Nat)
def Qbr (s : Sg) (n : Int) : Sg := { s with st := n }
def chgF (e : Int) : List Int → List Sg → Option (List Sg)
 | [], l => some l
 | i :: r, l => match l[i.toNat]? with
  | some s => bif QaE s.st e == 0 then none else chgF e r (l.set i.toNat (Qbr s (QaE s.st e)))
  | none => none
def noB : CV := .agg [.str [], .list true [], .int .i64 0, .list true [], .list true [], .int .i64 0]
def chgV (loc : Bs) (pn : Bool) (ps : List (List CV)) (g : Int) (rn : Bool) (rs : List (List CV)) (lim : Int) (all : List Int) (b : Bool) : Option (List Sg) → CV
 | some l => .tup [.agg [.str loc, .list pn ps, .int .i64 g, .list false (l.map sgE), .list rn rs, .int .i64 lim], .list b (all.map icv), .int .i64 0]
 | none => .tup [noB, .list true [], .int .i64 18]
theorem Qn2 {α : Type} : ∀ (l : List α) (i : Nat) (x : α), setN l i x = l.set i x
 | [], _, _ => rfl
 | _ :: _, 0, _ => rfl
 | a :: l, i + 1, x => by simp only [setN, List.set_cons_succ, Qn2 l i x]
theorem Qn0 (l : List Sg) (i : Nat) (s : Sg) (n : Int) : setN (l.map sgE) (0 + i) (Qbf (sgE s) 8 [.int .i64 n]) = (l.set i (Qbr s n)).map sgE := by
 rw [Qn2, Nat.zero_add, List.map_set]
 rfl
theorem Qmq (loc : Bs) (pn : Bool) (ps : List (List CV)) (g : Int) (l : List Sg) (rn : Bool) (rs : List (List CV)) (lim jh e : Int) (jA jv wp wk wl : CV) (all : List Int) (b : Bool) (hall : all.length ≤ 1000000) : ∀ (t p : List Int) (acc : List Sg), p ++ t = all → acc.length = l.length → (∀ i ∈ t, 0 ≤ i ∧ i < (l.length : Int)) →
  Evt fun n => ∀ k, t.length < k → QcN lb n k loc pn ps g false (l.map sgE) rn rs lim jh e jA jv b (all.map icv) wp wk wl (p.length : Int) (acc.map sgE) = some (chgV loc pn ps g rn rs lim all b (chgF e t acc))
 | [], p, acc, h, hl, ht => .all fun n k hk => by
  obtain ⟨k, rfl⟩ : ∃ m, k = m + 1 := ⟨k - 1, by simp at hk; omega⟩
  have hp : p = all := by simpa using h
  rw [Qd1]
  refine stF (decF (by simp [hp])) ?_
  rw [QhX]
  refine stC (by simp [hl]) ?_
  have htk : ((acc.map sgE).drop 0).take (l.map sgE).length = acc.map sgE := by
   rw [List.drop_zero, List.take_of_length_le (by simp [hl])]
  rw [htk]
  rfl
 | i :: t, p, acc, h, hl, ht => by
  obtain ⟨i0, i1⟩ := ht i (by simp)
  have hpl : p.length + (t.length + 1) = all.length := by rw [← h]; simp
  obtain ⟨s, hs⟩ : ∃ s, acc[i.toNat]? = some s := ⟨_, List.getElem?_eq_getElem (by omega)⟩
  refine Evt.imp2 (Qgt lb s.st e) (Qmq loc pn ps g l rn rs lim jh e jA jv wp wk wl all b hall t (p ++ [i]) (acc.set i.toNat (Qbr s (QaE s.st e))) (by rw [← h]; simp) (by simpa using hl) (fun j hj => ht j (by simp [hj]))) fun n hn hi k hk => ?_
  obtain ⟨k, rfl⟩ : ∃ m, k = m + 1 := ⟨k - 1, by simp at hk; omega⟩
  have hi := hi k (by simp at hk; omega)
  have hw : IntKind.wrap .i64 ((p.length : Int) + 1) = ((p ++ [i]).length : Int) := by rw [Qba (by omega) (by omega)]; simp
  have hat : atL (all.map icv) (p.length : Int) = some (icv i) := QbP (by rw [List.getElem?_map, ← h]; simp)
  have hg : (acc.map sgE)[0 + i.toNat]? = some (sgE s) := by rw [Nat.zero_add, List.getElem?_map, hs]; rfl
  have hrng : (decide (0 ≤ i) && decide (i < (((l.map sgE).length : Nat) : Int))) = true := by simp; omega
  rw [Qd1]
  have hF : chgF e (i :: t) acc = (bif QaE s.st e == 0 then none else chgF e t (acc.set i.toNat (Qbr s (QaE s.st e)))) := by
   show (match acc[i.toNat]? with
    | some s => bif QaE s.st e == 0 then none else chgF e t (acc.set i.toNat (Qbr s (QaE s.st e)))
    | none => none) = _
   rw [hs]
  rw [hF]
  refine stT (decT (by simp; omega)) (stO _ hat (stC rfl (stO _ rfl (stO i rfl (stC hrng (stO _ hg (stO _ rfl (stO _ hn ?_))))))))
  unfold QgK
  cases ha : QaE s.st e == 0 with
  | true => exact stO _ rfl (stO _ rfl (stO _ rfl (stO _ rfl (stO _ rfl (stT rfl rfl)))))
  | false =>
   refine stO _ rfl (stO _ rfl (stO _ rfl (stO _ rfl (stO _ rfl (stF rfl (stO i rfl (stC hrng (stC rfl (stO _ hg (stC rfl ?_))))))))))
   rw [hw, Qn0]
   exact hi
theorem QkR (loc : Bs) (pn : Bool) (ps : List (List CV)) (g : Int) (l : List Sg) (rn : Bool) (rs : List (List CV)) (lim jh e : Int) (jA jv wk wl : CV) (all : List Int) (hone : all = [jh]) (hall : all.length ≤ 1000000) : ∀ (t p : List Int) (acc : List Sg), p ++ t = all → acc.length = l.length → (∀ i ∈ t, 0 ≤ i ∧ i < (l.length : Int)) →
  Evt fun n => ∀ k, t.length < k → QcE lb n k loc pn ps g false (l.map sgE) rn rs lim jh e jA jv wk wl (p.length : Int) (acc.map sgE) = some (chgV loc pn ps g rn rs lim all false (chgF e t acc))
 | [], p, acc, h, hl, ht => .all fun n k hk => by
  obtain ⟨k, rfl⟩ : ∃ m, k = m + 1 := ⟨k - 1, by simp at hk; omega⟩
  have hp : p = all := by simpa using h
  rw [QdQ]
  refine stF (decF (by rw [hp, hone]; simp)) ?_
  rw [Qhk]
  refine stC (by simp [hl]) ?_
  have htk : ((acc.map sgE).drop 0).take (l.map sgE).length = acc.map sgE := by
   rw [List.drop_zero, List.take_of_length_le (by simp [hl])]
  rw [htk]
  rw [hone]; rfl
 | i :: t, p, acc, h, hl, ht => by
  obtain ⟨i0, i1⟩ := ht i (by simp)
  have hpl : p.length + (t.length + 1) = all.length := by rw [← h]; simp
  obtain ⟨s, hs⟩ : ∃ s, acc[i.toNat]? = some s := ⟨_, List.getElem?_eq_getElem (by omega)⟩
  refine Evt.imp2 (Qgt lb s.st e) (QkR loc pn ps g l rn rs lim jh e jA jv wk wl all hone hall t (p ++ [i]) (acc.set i.toNat (Qbr s (QaE s.st e))) (by rw [← h]; simp) (by simpa using hl) (fun j hj => ht j (by simp [hj]))) fun n hn hi k hk => ?_
  obtain ⟨k, rfl⟩ : ∃ m, k = m + 1 := ⟨k - 1, by simp at hk; omega⟩
  have hi := hi k (by simp at hk; omega)
  have hw : IntKind.wrap .i64 ((p.length : Int) + 1) = ((p ++ [i]).length : Int) := by rw [Qba (by omega) (by omega)]; simp
  have hat : atL (all.map icv) (p.length : Int) = some (icv i) := QbP (by rw [List.getElem?_map, ← h]; simp)
  have hg : (acc.map sgE)[0 + i.toNat]? = some (sgE s) := by rw [Nat.zero_add, List.getElem?_map, hs]; rfl
  have hrng : (decide (0 ≤ i) && decide (i < (((l.map sgE).length : Nat) : Int))) = true := by simp; omega
  rw [QdQ]
  have hF : chgF e (i :: t) acc = (bif QaE s.st e == 0 then none else chgF e t (acc.set i.toNat (Qbr s (QaE s.st e)))) := by
   show (match acc[i.toNat]? with
    | some s => bif QaE s.st e == 0 then none else chgF e t (acc.set i.toNat (Qbr s (QaE s.st e)))
    | none => none) = _
   rw [hs]
  rw [hF]
  refine stT (decT (by rw [hone] at hpl; simp at hpl; omega)) (stO _ (by rw [hone] at hat; exact hat) (stC rfl (stO _ rfl (stO i rfl (stC hrng (stO _ hg (stO _ rfl (stO _ hn ?_))))))))
  unfold QgK
  cases ha : QaE s.st e == 0 with
  | true => exact stO _ rfl (stO _ rfl (stO _ rfl (stO _ rfl (stO _ rfl (stT rfl rfl)))))
  | false =>
   refine stO _ rfl (stO _ rfl (stO _ rfl (stO _ rfl (stO _ rfl (stF rfl (stO i rfl (stC hrng (stC rfl (stO _ hg (stC rfl ?_))))))))))
   rw [hw, Qn0]
   exact hi
theorem Qk6 (loc : Bs) (pn : Bool) (ps : List (List CV)) (g : Int) (l : List Sg) (rn : Bool) (rs : List (List CV)) (lim jh e : Int) (jA jv : CV) (all : List Int) (hone : all = [jh]) (hall : all.length ≤ 1000000) : ∀ (t p : List Int) (acc : List Sg), p ++ t = all → acc.length = l.length → (∀ i ∈ t, 0 ≤ i ∧ i < (l.length : Int)) →
  Evt fun n => ∀ k, t.length < k → QcB lb n k loc pn ps g false (l.map sgE) rn rs lim jh e jA jv (p.length : Int) (acc.map sgE) = some (chgV loc pn ps g rn rs lim all false (chgF e t acc))
 | [], p, acc, h, hl, ht => .all fun n k hk => by
  obtain ⟨k, rfl⟩ : ∃ m, k = m + 1 := ⟨k - 1, by simp at hk; omega⟩
  have hp : p = all := by simpa using h
  rw [QdO]
  refine stF (decF (by rw [hp, hone]; simp)) ?_
  rw [QhD]
  refine stC (by simp [hl]) ?_
  have htk : ((acc.map sgE).drop 0).take (l.map sgE).length = acc.map sgE := by
   rw [List.drop_zero, List.take_of_length_le (by simp [hl])]
  rw [htk]
  rw [hone]; rfl
 | i :: t, p, acc, h, hl, ht => by
  obtain ⟨i0, i1⟩ := ht i (by simp)
  have hpl : p.length + (t.length + 1) = all.length := by rw [← h]; simp
  obtain ⟨s, hs⟩ : ∃ s, acc[i.toNat]? = some s := ⟨_, List.getElem?_eq_getElem (by omega)⟩
  refine Evt.imp2 (Qgt lb s.st e) (Qk6 loc pn ps g l rn rs lim jh e jA jv all hone hall t (p ++ [i]) (acc.set i.toNat (Qbr s (QaE s.st e))) (by rw [← h]; simp) (by simpa using hl) (fun j hj => ht j (by simp [hj]))) fun n hn hi k hk => ?_
  obtain ⟨k, rfl⟩ : ∃ m, k = m + 1 := ⟨k - 1, by simp at hk; omega⟩
  have hi := hi k (by simp at hk; omega)
  have hw : IntKind.wrap .i64 ((p.length : Int) + 1) = ((p ++ [i]).length : Int) := by rw [Qba (by omega) (by omega)]; simp
  have hat : atL (all.map icv) (p.length : Int) = some (icv i) := QbP (by rw [List.getElem?_map, ← h]; simp)
  have hg : (acc.map sgE)[0 + i.toNat]? = some (sgE s) := by rw [Nat.zero_add, List.getElem?_map, hs]; rfl
  have hrng : (decide (0 ≤ i) && decide (i < (((l.map sgE).length : Nat) : Int))) = true := by simp; omega
  rw [QdO]
  have hF : chgF e (i :: t) acc = (bif QaE s.st e == 0 then none else chgF e t (acc.set i.toNat (Qbr s (QaE s.st e)))) := by
   show (match acc[i.toNat]? with
    | some s => bif QaE s.st e == 0 then none else chgF e t (acc.set i.toNat (Qbr s (QaE s.st e)))
    | none => none) = _
   rw [hs]
  rw [hF]
  refine stT (decT (by rw [hone] at hpl; simp at hpl; omega)) (stO _ (by rw [hone] at hat; exact hat) (stC rfl (stO _ rfl (stO i rfl (stC hrng (stO _ hg (stO _ rfl (stO _ hn ?_))))))))
  unfold QgK
  cases ha : QaE s.st e == 0 with
  | true => exact stO _ rfl (stO _ rfl (stO _ rfl (stO _ rfl (stO _ rfl (stT rfl rfl)))))
  | false =>
   refine stO _ rfl (stO _ rfl (stO _ rfl (stO _ rfl (stO _ rfl (stF rfl (stO i rfl (stC hrng (stC rfl (stO _ hg (stC rfl ?_))))))))))
   rw [hw, Qn0]
   exact hi
end Go.Proofs
set_option linter.unusedSimpArgs false
set_option linter.unusedVariables false
namespace Go.Proofs
open Go.Am
variable (lb : Nat)
theorem QqN {g : List Int} {k : Int} (h : Asc g) (hk : ∀ x ∈ g, x ≤ k) : Asc (g ++ [k]) := fun i a b ha hb => by
 by_cases h1 : i + 1 < g.length
 ·rw [List.getElem?_append_left (by omega)] at ha
  rw [List.getElem?_append_left h1] at hb
  exact h i a b ha hb
 ·have hi : i + 1 < (g ++ [k]).length := (List.getElem?_eq_some_iff.1 hb).1
  simp at hi
  have e : i + 1 = g.length := by omega
  rw [List.getElem?_append_left (by omega)] at ha
  rw [List.getElem?_append_right (by omega), e] at hb
  simp at hb
  subst hb
  exact hk a (List.mem_of_getElem? ha)
theorem QoB (k : Int) : Asc [k] := fun i a b ha hb => by simp at hb
theorem Qlv (l : List Int) : ∀ k, k ≤ l.length → ∀ g ∈ (Qa2 (l.take k)).2.2, Asc g
 | 0, _, g, hg => by simp [Qa2] at hg
 | k + 1, h, g, hg => by
  obtain ⟨x, hx⟩ : ∃ x, l[k]? = some x := ⟨_, List.getElem?_eq_getElem (by omega)⟩
  have ih := Qlv l k (by omega)
  have im := QdA l k (by omega)
  rw [QcA hx] at hg
  simp only [stepG] at hg
  rw [Qdw l k (by omega)] at hg
  split at hg
  ·unfold Qhn at hg
   rcases List.mem_append.1 hg with hg | hg
   ·exact ih g (List.dropLast_subset _ hg)
   ·simp only [List.mem_singleton] at hg
    subst hg
    cases hq : (Qa2 (l.take k)).2.2.getLast? with
    | none => exact QoB _
    | some g0 =>
     exact QqN (ih g0 (List.mem_of_getLast? hq)) fun y hy => by have := im g0 (List.mem_of_getLast? hq) y hy; omega
  ·rcases List.mem_append.1 hg with hg | hg
   ·exact ih g hg
   ·simp only [List.mem_singleton] at hg; subst hg; exact QoB _
def allF (l : List Sg) (x e : Int) : List Int := bif e != 5 && (e != 6 && e != 7) then (if marE (mars l) = 0 then (match (QaF (mars l)).find? (·.contains x) with
 | some g => g
 | none => [x]) else [x]) else [x]
def Qhu (loc : Bs) (pn : Bool) (ps : List (List CV)) (g : Int) (l : List Sg) (rn : Bool) (rs : List (List CV)) (lim x e : Int) : CV :=
 if x < 0 ∨ x ≥ (l.length : Int) then .tup [noB, .list true [], .int .i64 7] else
 match l[x.toNat]? with
 | some s => if QaE s.st e = 0 then .tup [noB, .list true [], .int .i64 10] else chgV loc pn ps g rn rs lim (allF l x e) false (chgF e (allF l x e) l)
 | none => noB
theorem Qpa (g : List Int) (h : g.length ≤ 1000000) : Qgy (.list false (g.map icv)) = true := by
 have h1 : Qcb (g.map icv) = some g := by
  clear h
  induction g with
  | nil => rfl
  | cons x g ih => simp [icv, Qcb] at ih ⊢; exact ih
 simp [Qgy, h1]; omega
theorem Qo9 (loc : Bs) (pn : Bool) (ps : List (List CV)) (g : Int) (bn : Bool) (l : List Sg) (rn : Bool) (rs : List (List CV)) (lim x e : Int) (hbn : bn = true → l = []) (hl : l.length ≤ 12) :
  Ret lb Qab [.agg [.str loc, .list pn ps, .int .i64 g, .list bn (l.map sgE), .list rn rs, .int .i64 lim], .int .i64 x, .int .i64 e] (Qhu loc pn ps g l rn rs lim x e) := by
 have hlm : (((l.map sgE).length : Nat) : Int) = (l.length : Int) := by simp
 unfold Qhu
 by_cases h0 : x < 0
 ·rw [if_pos (.inl h0)]
  exact .top rfl (.all fun n => by rw [QaV]; exact stT (decT h0) rfl)
 by_cases h1 : x ≥ (l.length : Int)
 ·rw [if_pos (.inr h1)]
  exact .top rfl (.all fun n => by rw [QaV]; exact stF (decF h0) (stT (decT (by rw [hlm]; exact h1)) rfl))
 rw [if_neg (by omega)]
 obtain ⟨s, hs⟩ : ∃ s, l[x.toNat]? = some s := ⟨_, List.getElem?_eq_getElem (by omega)⟩
 rw [hs]
 have hbf : bn = false := by
  cases bn with
  | false => rfl
  | true => have := hbn rfl; subst this; simp at h1; omega
 subst hbf
 have hat : atL (l.map sgE) x = some (sgE s) := by
  obtain ⟨k, rfl⟩ : ∃ k : Nat, x = k := ⟨x.toNat, by omega⟩
  exact QbP (by rw [List.getElem?_map]; simp at hs; rw [hs]; rfl)
 have hall10 : (l.map sgE).all (·.length == 10) = true := by simp [sgE]
 have hroom : room (l.map sgE).length 112 = true := QjJ (by simp; omega)
 have hemp : (l.map sgE).isEmpty = false := by
  cases l with
  | nil => simp at hs
  | cons a t => rfl
 simp only
 by_cases ha : QaE s.st e = 0
 ·rw [if_pos ha]
  exact .top rfl ((Qgt lb s.st e).mono fun n h => by
   rw [QaV]
   refine stF (decF h0) (stF (decF (by rw [hlm]; exact h1)) (stO _ hat (stC rfl (stO _ rfl (stO _ h ?_)))))
   unfold QgK
   rw [ha]
   exact stO _ rfl (stO _ rfl (stO _ rfl (stO _ rfl (stO _ rfl (stT rfl rfl))))))
 ·rw [if_neg ha]
  have hnv : QgK s.st e = .tup [.int .i64 (QaE s.st e), .int .i64 0] := by unfold QgK; rw [beqF ha]; rfl
  have hN := Qgt lb s.st e
  rw [hnv] at hN
  have hx : ∀ i ∈ [x], 0 ≤ i ∧ i < (l.length : Int) := fun i hi => by simp at hi; omega
  have L11 : ∀ jV jW, Evt fun n => QdR lb n loc pn ps g false (l.map sgE) rn rs lim x e (.int .i64 (QaE s.st e)) (.int .i64 0) jV jW = some (chgV loc pn ps g rn rs lim [x] false (chgF e [x] l)) := fun jV jW =>
   (Evt.diag (QkR lb loc pn ps g l rn rs lim x e _ _ jV jW [x] rfl (by simp) [x] [] l rfl rfl hx)).mono fun n h => by
    rw [QhR]
    exact stF rfl (stC hall10 (stC hroom (stF hemp h)))
  have L16 : Evt fun n => Qb1 lb n loc pn ps g false (l.map sgE) rn rs lim x e (.int .i64 (QaE s.st e)) (.int .i64 0) = some (chgV loc pn ps g rn rs lim [x] false (chgF e [x] l)) :=
   (Evt.diag (Qk6 lb loc pn ps g l rn rs lim x e _ _ [x] rfl (by simp) [x] [] l rfl rfl hx)).mono fun n h => by
    rw [Qhe]
    exact stF rfl (stC hall10 (stC hroom (stF hemp h)))
  have hml : (mars l).length ≤ 12 := by simp [mars]; exact hl
  cases h5 : e != 5 with
  | false =>
   have hA : allF l x e = [x] := by unfold allF; rw [h5]; rfl
   rw [hA]
   exact .top rfl (Evt.imp2 hN L16 fun n h hJ => by
    rw [QaV]
    exact stF (decF h0) (stF (decF (by rw [hlm]; exact h1)) (stO _ hat (stC rfl (stO _ rfl (stO _ h (stO _ rfl (stO _ rfl (stO _ rfl (stO _ rfl (stO _ rfl (stF rfl (stF h5 hJ)))))))))))))
  | true =>
  cases h6 : e != 6 with
  | false =>
   have hA : allF l x e = [x] := by unfold allF; rw [h5, h6]; rfl
   rw [hA]
   exact .top rfl (Evt.imp2 hN L16 fun n h hJ => by
    rw [QaV]
    exact stF (decF h0) (stF (decF (by rw [hlm]; exact h1)) (stO _ hat (stC rfl (stO _ rfl (stO _ h (stO _ rfl (stO _ rfl (stO _ rfl (stO _ rfl (stO _ rfl (stF rfl (stT h5 (stF h6 hJ))))))))))))))
  | true =>
  cases h7 : e != 7 with
  | false =>
   have hA : allF l x e = [x] := by unfold allF; rw [h5, h6, h7]; rfl
   rw [hA]
   exact .top rfl (Evt.imp2 hN L16 fun n h hJ => by
    rw [QaV]
    exact stF (decF h0) (stF (decF (by rw [hlm]; exact h1)) (stO _ hat (stC rfl (stO _ rfl (stO _ h (stO _ rfl (stO _ rfl (stO _ rfl (stO _ rfl (stO _ rfl (stF rfl (stT h5 (stT h6 (stF h7 hJ)))))))))))))))
  | true =>
  have hM := Qiu lb false l (by omega)
  have hW := QlJ lb false (mars l) x (by omega)
  have hMW := Evt.imp2 hM hW fun n a b => (⟨a, b⟩ : _ ∧ _)
  have hNM := Evt.imp2 hN hMW fun n a b => (⟨a, b⟩ : _ ∧ _)
  by_cases hm : marE (mars l) = 0
  ·cases hf : (QaF (mars l)).find? (·.contains x) with
   | some gq =>
    have hA : allF l x e = gq := by unfold allF; rw [h5, h6, h7]; simp only [Bool.and_self, cond_true]; rw [if_pos hm, hf]
    rw [hA]
    have hV : Qez (mars l) x = .tup [.list false (gq.map icv), .int .i64 0] := by unfold Qez; rw [if_pos hm, hf]
    rw [hV] at hNM
    have hmem := List.mem_of_find?_eq_some hf
    have ok := Qc0 (mars l) (mars l).length (Nat.le_refl _)
    have mem := QdA (mars l) (mars l).length (Nat.le_refl _)
    have asc := Qlv (mars l) (mars l).length (Nat.le_refl _)
    rw [List.take_length] at ok mem asc
    have hgl : gq.length ≤ 12 := by have := ok.lens gq hmem; omega
    have hmm : (mars l).length = l.length := by simp [mars]
    have hS := QkL lb false gq hgl (asc gq hmem)
    have hge : (gq.map icv).isEmpty = false := by
     obtain ⟨a, t, rfl, _⟩ := ok.heads gq hmem
     rfl
    have hnk : bytesOf (bif Qgy (.list false (gq.map icv)) then [] else [[]]) = some [] := by rw [Qpa gq (by omega)]; rfl
    have L6 : Evt fun n => booking_Change_J1 lb n loc pn ps g false (l.map sgE) rn rs lim x e (.int .i64 (QaE s.st e)) (.int .i64 0) false (gq.map icv) (.list false (gq.map icv)) (.int .i64 0) (.list false (gq.map icv)) = some (chgV loc pn ps g rn rs lim gq false (chgF e gq l)) :=
     (Evt.diag (Qmq lb loc pn ps g l rn rs lim x e _ _ _ _ _ gq false (by omega) gq [] l rfl rfl (fun i hi => by have := mem gq hmem i hi; omega))).mono fun n h => by
      rw [Qh8]
      exact stF rfl (stC hall10 (stC hroom (stF hemp h)))
    exact .top rfl (Evt.imp2 hNM (Evt.imp2 hS L6 fun n a b => (⟨a, b⟩ : _ ∧ _)) fun n ⟨h, h2, h3⟩ ⟨h4, h5'⟩ => by
     rw [QaV]
     refine stF (decF h0) (stF (decF (by rw [hlm]; exact h1)) (stO _ hat (stC rfl (stO _ rfl (stO _ h (stO _ rfl (stO _ rfl (stO _ rfl (stO _ rfl (stO _ rfl (stF rfl (stT h5 (stT h6 (stT h7 (stO _ h2 (stO _ h3 (stO _ rfl (stO _ rfl (stO _ rfl (stO _ rfl (stO _ rfl (stT rfl (stC rfl (stO _ hnk ?_))))))))))))))))))))))))
     show optO (C lb n QcP [.list (gq.map icv).isEmpty (gq.map icv)]) (fun mF => booking_Change_J1 lb n loc pn ps g false (l.map sgE) rn rs lim x e (.int .i64 (QaE s.st e)) (.int .i64 0) (gq.map icv).isEmpty (gq.map icv) (.list false (gq.map icv)) (.int .i64 0) (.list false (gq.map icv))) = _
     rw [hge]
     exact stO _ h4 h5')
   | none =>
    have hA : allF l x e = [x] := by unfold allF; rw [h5, h6, h7]; simp only [Bool.and_self, cond_true]; rw [if_pos hm, hf]
    rw [hA]
    have hV : Qez (mars l) x = .tup [.list true [], .int .i64 2] := by unfold Qez; rw [if_pos hm, hf]
    rw [hV] at hNM
    exact .top rfl (Evt.imp2 hNM (L11 _ _) fun n ⟨h, h2, h3⟩ hJ => by
     rw [QaV]
     exact stF (decF h0) (stF (decF (by rw [hlm]; exact h1)) (stO _ hat (stC rfl (stO _ rfl (stO _ h (stO _ rfl (stO _ rfl (stO _ rfl (stO _ rfl (stO _ rfl (stF rfl (stT h5 (stT h6 (stT h7 (stO _ h2 (stO _ h3 (stO _ rfl (stO _ rfl (stO _ rfl (stO _ rfl (stO _ rfl (stF rfl hJ)))))))))))))))))))))))
  ·have hA : allF l x e = [x] := by unfold allF; rw [h5, h6, h7]; simp only [Bool.and_self, cond_true]; rw [if_neg hm]
   rw [hA]
   have hV : Qez (mars l) x = .tup [.list true [], .int .i64 (marE (mars l))] := by unfold Qez; rw [if_neg hm]
   rw [hV] at hNM
   exact .top rfl (Evt.imp2 hNM (L11 _ _) fun n ⟨h, h2, h3⟩ hJ => by
    rw [QaV]
    exact stF (decF h0) (stF (decF (by rw [hlm]; exact h1)) (stO _ hat (stC rfl (stO _ rfl (stO _ h (stO _ rfl (stO _ rfl (stO _ rfl (stO _ rfl (stO _ rfl (stF rfl (stT h5 (stT h6 (stT h7 (stO _ h2 (stO _ h3 (stO _ rfl (stO _ rfl (stO _ rfl (stO _ rfl (stO _ (Qaq ..) (stF (beqF hm) hJ)))))))))))))))))))))))
end Go.Proofs
