/- Chapter 35: the violations of a segment on plain data. Conditions: as each says. -/
import Derived.Test.YtigmcfhmpcajlaaGreatDoorBB
import Derived.Test.YtigmcfhmpcajlaaGreatDoorRA
import Derived.Test.YtigmcfhmpcajlaaGreatDoorGb
import Derived.Test.YtigmcfhmpcajlaaGreatDoorBA
import Derived.Test.YtigmcfhmpcajlaaGreatDoorGc
set_option linter.unusedSimpArgs false
set_option linter.unusedVariables false
namespace Go.Proofs
open Go.Am
variable (lb : Nat)
def stOk (x : Int) : Bool := decide (1 ≤ x ∧ x ≤ 7)
def stWords : Bs := [72, 75, 72, 76, 75, 76, 84, 75, 85, 78, 85, 67, 88, 88]
def Qrs (x : Int) : Bs := (stWords.take (2 * x).toNat).drop (2 * x - 2).toNat
def QlS (x : Int) : CV := bif stOk x then .tup [.str (Qrs x), .int .i64 0] else .tup [.str [], .int .i64 8]
theorem Qk0 (x : Int) : Ret lb QfQ [.int .i64 x] (QlS x) :=
 .top rfl (.all fun n => by
  rw [QlO]
  unfold QlS
  by_cases h1 : x < 1
  ·have : stOk x = false := by simp [stOk]; omega
   rw [this]
   exact stT (decT h1) rfl
  ·by_cases h2 : x > 7
   ·have : stOk x = false := by simp [stOk]; omega
    rw [this]
    exact stF (decF h1) (stT (decT h2) rfl)
   ·have : stOk x = true := by simp [stOk]; omega
    have hw : IntKind.wrap .i64 (2 * x) = 2 * x := Qba (by omega) (by omega)
    have hw2 : IntKind.wrap .i64 (2 * x - 2) = 2 * x - 2 := Qba (by omega) (by omega)
    rw [this, hw, hw2]
    exact stF (decF h1) (stF (decF h2) (stC (decT (by omega)) (stC (decT (by omega)) rfl))))
def QdZ (s : Sg) : Bool := Qij s.car && (Qei s.fr && Qei s.to)
def Qfv (s : Sg) : Bool := decide (0 ≤ s.dep ∧ s.dep < s.arr ∧ s.arr < 52596000)
def Qb3 (b : Bool) (e : Int) : List Int := bif b then [] else [e]
def Qdz (s : Sg) : List Int := ((Qb3 (QdZ s) 5 ++ Qb3 (Qfv s) 13) ++ Qb3 (QeI s.cls) 16) ++ Qb3 (stOk s.st) 10
def errV (l : List Int) : CV := .list l.isEmpty (l.map icv)
theorem Qln {l : List Int} (h : l.length ≤ 8) : room ((l.map icv).length + 1) 8 = true := QjJ (by simp; omega)
theorem QlT (l : List Int) (e : Int) : l.map icv ++ [[CV.int .i64 e]] = (l ++ [e]).map icv := by simp [icv]
theorem QlR (l : List Int) (e : Int) : (l.isEmpty && false) = (l ++ [e]).isEmpty := by simp
theorem QrO (s : Sg) (l : List Int) (hl : l.length ≤ 3) : Evt fun n => QdC lb n s.car s.num s.day s.fr s.to s.dep s.arr s.cls s.st s.mar l.isEmpty (l.map icv) = some (errV (l ++ Qb3 (stOk s.st) 10)) :=
 (Qk0 lb s.st).mono fun n h => by
  rw [QjW]
  refine stO _ h ?_
  unfold QlS
  cases stOk s.st with
  | true =>
   refine stO _ rfl (stO _ rfl (stO _ rfl (stO _ rfl (stO _ rfl (stF rfl ?_)))))
   show _ = some (errV (l ++ []))
   rw [List.append_nil]; rfl
  | false =>
   refine stO _ rfl (stO _ rfl (stO _ rfl (stO _ rfl (stO _ rfl (stT rfl (stC (Qln (by omega)) ?_))))))
   rw [QlT, QlR l 10]; rfl
theorem QrW (s : Sg) (l : List Int) (hl : l.length ≤ 2) : Evt fun n => Qci lb n s.car s.num s.day s.fr s.to s.dep s.arr s.cls s.st s.mar l.isEmpty (l.map icv) = some (errV ((l ++ Qb3 (QeI s.cls) 16) ++ Qb3 (stOk s.st) 10)) := by
 refine Evt.imp2 (QlH lb s.cls) (QrO lb s (l ++ Qb3 (QeI s.cls) 16) (by unfold Qb3; cases QeI s.cls <;> simp <;> omega)) fun n h h3 => ?_
 rw [Qj2]
 refine stO _ h (stO _ (Qbl _) ?_)
 cases hc : QeI s.cls with
 | true =>
  rw [hc] at h3
  refine stF rfl ?_
  have e : l ++ Qb3 true 16 = l := List.append_nil l
  rw [e] at h3 ⊢
  exact h3
 | false =>
  rw [hc] at h3
  refine stT rfl (stC (Qln (by omega)) ?_)
  rw [QlT, QlR l 16]
  exact h3
theorem QrT (s : Sg) (l : List Int) (hl : l.length ≤ 1) : Evt fun n => Qcj lb n s.car s.num s.day s.fr s.to s.dep s.arr s.cls s.st s.mar l.isEmpty (l.map icv) = some (errV (((l ++ Qb3 (Qfv s) 13) ++ Qb3 (QeI s.cls) 16) ++ Qb3 (stOk s.st) 10)) := by
 refine (QrW lb s (l ++ Qb3 (Qfv s) 13) (by unfold Qb3; cases Qfv s <;> simp <;> omega)).mono fun n h => ?_
 rw [QjV]
 cases ht : Qfv s with
 | true =>
  rw [ht] at h
  have e : l ++ Qb3 true 13 = l := List.append_nil l
  rw [e] at h ⊢
  simp only [Qfv, decide_eq_true_eq] at ht
  exact stF (decF (by omega)) (stF (decF (by omega)) (stF (decF (by omega)) h))
 | false =>
  rw [ht] at h
  simp only [Qfv, decide_eq_false_iff_not] at ht
  rw [QlT, QlR l 13]
  by_cases h1 : s.dep < 0
  ·exact stT (decT h1) (stC (Qln (by omega)) h)
  ·by_cases h2 : s.dep ≥ s.arr
   ·exact stF (decF h1) (stT (decT h2) (stC (Qln (by omega)) h))
   ·exact stF (decF h1) (stF (decF h2) (stT (decT (by omega)) (stC (Qln (by omega)) h)))
theorem Qrx (s : Sg) (h1 : s.car.length ≤ 281474976710656) (h2 : s.fr.length ≤ 281474976710656) (h3 : s.to.length ≤ 281474976710656) : Ret lb QaQ [.agg (sgE s)] (errV (Qdz s)) := by
 refine .top rfl (Evt.imp2 (Evt.imp2 (QkI lb s.car h1) (Evt.imp2 (Qgc lb s.fr h2) (Qgc lb s.to h3) fun n a b => (⟨a, b⟩ : _ ∧ _)) fun n a b => (⟨a, b⟩ : _ ∧ _)) (QrT lb s (Qb3 (QdZ s) 5) (by unfold Qb3; cases QdZ s <;> simp)) fun n ⟨c1, c2, c3⟩ h => ?_)
 rw [show top lb n QaQ [.agg (sgE s)] = _ from Qmb lb n s.car s.num s.day s.fr s.to s.dep s.arr s.cls s.st s.mar]
 refine stO _ c1 (stO _ (Qbl _) ?_)
 unfold Qdz
 cases k1 : Qij s.car with
 | false =>
  have : QdZ s = false := by unfold QdZ; rw [k1]; rfl
  rw [this] at h ⊢
  exact stT rfl h
 | true =>
  refine stF rfl (stO _ c2 (stO _ (Qbl _) ?_))
  cases k2 : Qei s.fr with
  | false =>
   have : QdZ s = false := by unfold QdZ; rw [k1, k2]; rfl
   rw [this] at h ⊢
   exact stT rfl h
  | true =>
   refine stF rfl (stO _ c3 (stO _ (Qbl _) ?_))
   have : QdZ s = Qei s.to := by unfold QdZ; rw [k1, k2]; rfl
   rw [this] at h ⊢
   cases k3 : Qei s.to with
   | false => rw [k3] at h; exact stT rfl h
   | true => rw [k3] at h; exact stF rfl h
end Go.Proofs
set_option linter.unusedSimpArgs false
set_option linter.unusedVariables false
namespace Go.Proofs
open Go.Am
variable (lb : Nat)
structure Pe where
 la : Bs
 fi : Bs
 ty : Bs
def peE (p : Pe) : List CV := [.str p.la, .str p.fi, .str p.ty]
def PeOk (p : Pe) : Prop := p.la.length ≤ 281474976710656 ∧ p.fi.length ≤ 281474976710656 ∧ p.ty.length ≤ 281474976710656
def infB (p : Pe) : Bool := p.ty == [73, 78, 70]
def aduB (p : Pe) : Bool := !infB p && !(p.ty == [67, 72, 68])
def Qhi (p : Pe) : Bool := QgH p.la && QgH p.fi
def Qgr (p : Pe) : Bool := Qc5 p.ty 3 3
def QcH : Int → List Pe → Int
 | n, [] => n
 | n, p :: t => QcH ((n + (bif infB p then 1 else 0)) - (bif aduB p then 1 else 0)) t
theorem QiE (s : Bs) : Ret lb Qa3 [.str s] (.bool (QgH s)) := by
 by_cases h : s.length ≤ 30
 ·exact QmR lb s (by omega)
 ·refine .top rfl (.all fun n => ?_)
  rw [Qi9]
  have : QgH s = false := by unfold QgH; simp [h]
  rw [this]
  exact stT (decT (by omega)) rfl
theorem Qqh (p : Pe) (h : PeOk p) : Ret lb Qec [.agg (peE p)] (.bool (Qhi p)) :=
 .top rfl (Evt.imp2 (QiE lb p.la) (QiE lb p.fi) fun n h1 h2 => by
  rw [show top lb n Qec [.agg (peE p)] = _ from QlF lb n p.la p.fi p.ty]
  refine stO _ h1 (stO _ (Qbl _) ?_)
  unfold Qhi
  cases QgH p.la with
  | true => exact stT rfl (stO _ h2 rfl)
  | false => exact stF rfl rfl)
theorem Qqe (p : Pe) (h : PeOk p) : Ret lb Qcx [.agg (peE p)] (.bool (Qgr p)) :=
 .top rfl ((Qea lb p.ty 3 3 (by have := h.2.2; omega)).mono fun n h1 => by
  rw [show top lb n Qcx [.agg (peE p)] = _ from QlN lb n p.la p.fi p.ty]
  exact stO _ h1 rfl)
theorem QkS (p : Pe) : Ret lb QcW [.agg (peE p)] (.bool (infB p)) :=
 .top rfl (.all fun n => by
  rw [show top lb n QcW [.agg (peE p)] = _ from QkU lb n p.la p.fi p.ty]
  rfl)
theorem Qqc (p : Pe) : Ret lb Qdc [.agg (peE p)] (.bool (aduB p)) :=
 .top rfl ((QkS lb p).mono fun n h => by
  rw [show top lb n Qdc [.agg (peE p)] = _ from Ql7 lb n p.la p.fi p.ty]
  refine stO _ h (stO _ (Qbl _) ?_)
  unfold aduB
  cases infB p with
  | true => exact stF rfl rfl
  | false => exact stT rfl rfl)
theorem QnY (bn : Bool) (l : List Pe) (hl : l.length ≤ 1000000) : ∀ (t u : List Pe) (m : Int), u ++ t = l → -(u.length : Int) ≤ m → m ≤ (u.length : Int) → Evt fun n => ∀ k, t.length < k → QbR lb n k bn (l.map peE) m (u.length : Int) = some (.bool (decide (QcH m t > 0)))
 | [], u, m, h, _, _ => .all fun n k hk => by
  obtain ⟨k, rfl⟩ : ∃ j, k = j + 1 := ⟨k - 1, by simp at hk; omega⟩
  have hu : u = l := by simpa using h
  rw [QeP, hu]
  refine stF (decF (by simp)) ?_
  rw [QjX]; rfl
 | p :: t, u, m, h, m0, m1 => by
  have hul : u.length + (t.length + 1) = l.length := by rw [← h]; simp
  have hw : IntKind.wrap .i64 ((u.length : Int) + 1) = ((u ++ [p]).length : Int) := by rw [Qba (by omega) (by omega)]; simp
  have hat : atL (l.map peE) (u.length : Int) = some (peE p) := QbP (by rw [List.getElem?_map, ← h]; simp)
  have w1 : IntKind.wrap .i64 (m + 1) = m + 1 := Qba (by omega) (by omega)
  have w2 : IntKind.wrap .i64 (m - 1) = m - 1 := Qba (by omega) (by omega)
  have w3 : IntKind.wrap .i64 (m + 1 - 1) = m := by rw [Qba (by omega) (by omega)]; omega
  have hex : infB p = true → aduB p = false := fun hi => by unfold aduB; rw [hi]; rfl
  refine Evt.imp2 (Evt.imp2 (QkS lb p) (Qqc lb p) fun n a b => (⟨a, b⟩ : _ ∧ _)) (QnY bn l hl t (u ++ [p]) ((m + (bif infB p then 1 else 0)) - (bif aduB p then 1 else 0)) (by rw [← h]; simp)
   (by simp; cases infB p <;> cases aduB p <;> simp <;> omega) (by simp; cases infB p <;> cases aduB p <;> simp <;> omega)) fun n ⟨h1, h2⟩ hi k hk => ?_
  obtain ⟨k, rfl⟩ : ∃ j, k = j + 1 := ⟨k - 1, by simp at hk; omega⟩
  have hi := hi k (by simp at hk; omega)
  rw [QeP]
  unfold QcH
  refine stT (decT (by simp; omega)) (stO _ hat (stC rfl (stO _ rfl (stO _ rfl (stO _ rfl (stO _ h1 (stO _ (Qbl _) ?_)))))))
  cases hI : infB p with
  | true =>
   have hA := hex hI
   rw [hA] at h2
   rw [hI, hA] at hi
   rw [hA]
   refine stT rfl (stO _ h2 (stO _ (Qbl _) (stF rfl ?_)))
   rw [w1, hw]
   simpa using hi
  | false =>
   refine stF rfl (stO _ h2 (stO _ (Qbl _) ?_))
   cases hA : aduB p with
   | true =>
    rw [hI, hA] at hi
    refine stT rfl ?_
    rw [w2, hw]
    simpa using hi
   | false =>
    rw [hI, hA] at hi
    refine stF rfl ?_
    rw [hw]
    simpa using hi
theorem Qmy (bn : Bool) (l : List Pe) (hl : l.length ≤ 1000000) : Ret lb Qat [.list bn (l.map peE)] (.bool (decide (QcH 0 l > 0))) :=
 .top rfl ((Evt.diag (QnY lb bn l hl l [] 0 rfl (by simp) (by simp))).mono fun n h => by rw [Qmd]; exact h)
end Go.Proofs
set_option linter.unusedSimpArgs false
set_option linter.unusedVariables false
namespace Go.Proofs
open Go.Am
variable (lb : Nat)
abbrev Fau := Int × Bs
def fauE (f : Fau) : List CV := [.int .i64 f.1, .str f.2]
def Qbk (l : List Fau) : CV := .list l.isEmpty (l.map fauE)
def QaC (b : Bool) (e : Int) (at' : Bs) : List Fau := bif b then [(e, at')] else []
def Qa0 : Bs := [112, 97, 114, 116, 121]
theorem Qes (l : List Fau) (e : Int) (s : Bs) : l.map fauE ++ [[CV.int .i64 e, CV.str s]] = (l ++ [(e, s)]).map fauE := by simp [fauE]
theorem Qer (l : List Fau) (x : Fau) : (l.isEmpty && false) = (l ++ [x]).isEmpty := by simp
theorem QfI {l : List Fau} (h : l.length ≤ 1000000) : room ((l.map fauE).length + 1) 24 = true := QjJ (by simp; omega)
theorem acc (c : Bool) (l : List Fau) (e : Int) (s : Bs) (hl : l.length ≤ 999999) (J : Bool → List (List CV) → Option CV) :
  (bif c then chkO (room ((l.map fauE).length + 1) 24) (J (l.isEmpty && false) (l.map fauE ++ [[CV.int .i64 e, CV.str s]])) else J l.isEmpty (l.map fauE)) = J (l ++ QaC c e s).isEmpty ((l ++ QaC c e s).map fauE) := by
 cases c with
 | true =>
  refine stC (QfI (by omega)) ?_
  rw [Qes, Qer l (e, s)]; rfl
 | false =>
  show _ = J (l ++ []).isEmpty ((l ++ []).map fauE)
  rw [List.append_nil]; rfl
theorem QbN (c : Bool) (e : Int) (s : Bs) : (QaC c e s).length ≤ 1 := by cases c <;> simp [QaC]
def idxF {α : Type} (f : Nat → α → List Fau) : Nat → List α → List Fau
 | _, [] => []
 | i, x :: t => f i x ++ idxF f (i + 1) t
theorem QgV {α : Type} (f : Nat → α → List Fau) (x : α) : ∀ (l : List α) (i : Nat), idxF f i (l ++ [x]) = idxF f i l ++ f (i + l.length) x
 | [], i => by simp [idxF]
 | y :: l, i => by
  simp only [List.cons_append, idxF, QgV f x l (i + 1), List.append_assoc, List.length_cons]
  rw [show i + 1 + l.length = i + (l.length + 1) by omega]
theorem Qgj {α : Type} {f : Nat → α → List Fau} {c : Nat} (h : ∀ i x, (f i x).length ≤ c) : ∀ (l : List α) (i : Nat), (idxF f i l).length ≤ c * l.length
 | [], i => by simp [idxF]
 | y :: l, i => by
  have := Qgj h l (i + 1)
  have := h i y
  simp only [idxF, List.length_append, List.length_cons, Nat.mul_add]
  omega
theorem Qeq {n : Nat} {bn : Bool} {ps : List (List CV)} {a : Bool} (h : C lb n Qat [.list bn ps] = some (.bool a)) (l : List Fau) (hl : l.length ≤ 1000000) :
  (optO (C lb n Qat [.list bn ps]) fun r => optO (CV.asB r) fun b => bif b then (chkO (room ((l.map fauE).length + 1) 24) (some (.list (l.isEmpty && false) (l.map fauE ++ [[CV.int .i64 25, CV.str [112, 97, 114, 116, 121]]])))) else (some (.list l.isEmpty (l.map fauE)))) = some (Qbk (l ++ QaC a 25 Qa0)) := by
 refine stO _ h (stO _ (Qbl _) ?_)
 cases a with
 | true =>
  refine stT rfl (stC (QfI hl) ?_)
  rw [Qes, Qer l (25, [112, 97, 114, 116, 121])]; rfl
 | false =>
  refine stF rfl ?_
  show _ = some (Qbk (l ++ []))
  rw [List.append_nil]; rfl
def QaU (n g : Int) : Bool := decide (n + g = 0) || ((g == 0 && decide (n > 9)) || decide (n + g > 99))
theorem Qqk (bn : Bool) (ps : List Pe) (grp : Int) (l : List Fau) (g : Int) (hps : ps.length ≤ 1000000) (hl : l.length ≤ 999999) (g0 : 0 ≤ g) (g1 : g ≤ 99) :
  Evt fun n => Qe3 lb n bn (ps.map peE) grp l.isEmpty (l.map fauE) g = some (Qbk ((l ++ QaC (QaU ps.length g) 4 Qa0) ++ QaC (decide (QcH 0 ps > 0)) 25 Qa0)) :=
 (Qmy lb bn ps hps).mono fun n h => by
  have hlen : (((ps.map peE).length : Nat) : Int) = (ps.length : Int) := by simp
  have hw : IntKind.wrap .i64 ((ps.length : Int) + g) = (ps.length : Int) + g := Qba (by omega) (by omega)
  have bad : (chkO (room ((l.map fauE).length + 1) 24) (optO (C lb n Qat [.list bn (ps.map peE)]) fun r => optO (CV.asB r) fun b => bif b then (chkO (room ((l.map fauE ++ [[CV.int .i64 4, CV.str [112, 97, 114, 116, 121]]]).length + 1) 24) (some (.list ((l.isEmpty && false) && false) ((l.map fauE ++ [[CV.int .i64 4, CV.str [112, 97, 114, 116, 121]]]) ++ [[CV.int .i64 25, CV.str [112, 97, 114, 116, 121]]])))) else (some (.list (l.isEmpty && false) (l.map fauE ++ [[CV.int .i64 4, CV.str [112, 97, 114, 116, 121]]]))))) = some (Qbk ((l ++ QaC true 4 Qa0) ++ QaC (decide (QcH 0 ps > 0)) 25 Qa0)) := by
   refine stC (QfI (by omega)) ?_
   rw [Qes, Qer l (4, [112, 97, 114, 116, 121])]
   exact Qeq lb h (l ++ [(4, Qa0)]) (by simp; omega)
  have good : ∀ {r}, r = some (Qbk (l ++ QaC (decide (QcH 0 ps > 0)) 25 Qa0)) → r = some (Qbk ((l ++ QaC false 4 Qa0) ++ QaC (decide (QcH 0 ps > 0)) 25 Qa0)) := fun e => by
   rw [e]; show _ = some (Qbk ((l ++ []) ++ _)); rw [List.append_nil]
  rw [QjU, hlen, hw]
  by_cases h0 : (ps.length : Int) + g = 0
  ·rw [show QaU ps.length g = true by simp [QaU, h0]]
   exact stT (beqT h0) bad
  refine stF (beqF h0) ?_
  by_cases hg : g = 0
  ·refine stT (beqT hg) ?_
   by_cases h9 : (ps.length : Int) > 9
   ·rw [show QaU ps.length g = true by simp [QaU, hg]; omega]
    exact stT (decT h9) bad
   refine stF (decF h9) ?_
   by_cases h99 : (ps.length : Int) + g > 99
   ·omega
   rw [show QaU ps.length g = false by simp [QaU]; omega]
   exact stF (decF h99) (good (Qeq lb h l (by omega)))
  ·refine stF (beqF hg) ?_
   by_cases h99 : (ps.length : Int) + g > 99
   ·rw [show QaU ps.length g = true by simp [QaU]; omega]
    exact stT (decT h99) bad
   rw [show QaU ps.length g = false by simp [QaU]; omega]
   exact stF (decF h99) (good (Qeq lb h l (by omega)))
theorem Qnv (bn : Bool) (ps : List Pe) (grp : Int) (l : List Fau) (g : Int) (hps : ps.length ≤ 1000000) (hl : l.length ≤ 999999) (g0 : 0 ≤ g) (g1 : g ≤ 99) :
  Evt fun n => QdK lb n bn (ps.map peE) grp l.isEmpty (l.map fauE) g = some (Qbk ((l ++ QaC (QaU ps.length g) 4 Qa0) ++ QaC (decide (QcH 0 ps > 0)) 25 Qa0)) :=
 (Qmy lb bn ps hps).mono fun n h => by
  have hlen : (((ps.map peE).length : Nat) : Int) = (ps.length : Int) := by simp
  have hw : IntKind.wrap .i64 ((ps.length : Int) + g) = (ps.length : Int) + g := Qba (by omega) (by omega)
  have bad : (chkO (room ((l.map fauE).length + 1) 24) (optO (C lb n Qat [.list bn (ps.map peE)]) fun r => optO (CV.asB r) fun b => bif b then (chkO (room ((l.map fauE ++ [[CV.int .i64 4, CV.str [112, 97, 114, 116, 121]]]).length + 1) 24) (some (.list ((l.isEmpty && false) && false) ((l.map fauE ++ [[CV.int .i64 4, CV.str [112, 97, 114, 116, 121]]]) ++ [[CV.int .i64 25, CV.str [112, 97, 114, 116, 121]]])))) else (some (.list (l.isEmpty && false) (l.map fauE ++ [[CV.int .i64 4, CV.str [112, 97, 114, 116, 121]]]))))) = some (Qbk ((l ++ QaC true 4 Qa0) ++ QaC (decide (QcH 0 ps > 0)) 25 Qa0)) := by
   refine stC (QfI (by omega)) ?_
   rw [Qes, Qer l (4, [112, 97, 114, 116, 121])]
   exact Qeq lb h (l ++ [(4, Qa0)]) (by simp; omega)
  have good : ∀ {r}, r = some (Qbk (l ++ QaC (decide (QcH 0 ps > 0)) 25 Qa0)) → r = some (Qbk ((l ++ QaC false 4 Qa0) ++ QaC (decide (QcH 0 ps > 0)) 25 Qa0)) := fun e => by
   rw [e]; show _ = some (Qbk ((l ++ []) ++ _)); rw [List.append_nil]
  rw [QjY, hlen, hw]
  by_cases h0 : (ps.length : Int) + g = 0
  ·rw [show QaU ps.length g = true by simp [QaU, h0]]
   exact stT (beqT h0) bad
  refine stF (beqF h0) ?_
  by_cases hg : g = 0
  ·refine stT (beqT hg) ?_
   by_cases h9 : (ps.length : Int) > 9
   ·rw [show QaU ps.length g = true by simp [QaU, hg]; omega]
    exact stT (decT h9) bad
   refine stF (decF h9) ?_
   by_cases h99 : (ps.length : Int) + g > 99
   ·omega
   rw [show QaU ps.length g = false by simp [QaU]; omega]
   exact stF (decF h99) (good (Qeq lb h l (by omega)))
  ·refine stF (beqF hg) ?_
   by_cases h99 : (ps.length : Int) + g > 99
   ·rw [show QaU ps.length g = true by simp [QaU]; omega]
    exact stT (decT h99) bad
   rw [show QaU ps.length g = false by simp [QaU]; omega]
   exact stF (decF h99) (good (Qeq lb h l (by omega)))
def Qd2 (g : Int) : Bool := decide (g < 0) || decide (g > 99)
def Qia (ps : List Pe) (g : Int) : List Fau := QaC (Qd2 g) 2 Qa0 ++ (QaC (QaU ps.length (bif Qd2 g then 0 else g)) 4 Qa0 ++ QaC (decide (QcH 0 ps > 0)) 25 Qa0)
theorem QqC (bn : Bool) (ps : List Pe) (grp : Int) (l : List Fau) (hps : ps.length ≤ 1000000) (hl : l.length ≤ 999998) :
  Evt fun n => QeU lb n bn (ps.map peE) grp l.isEmpty (l.map fauE) = some (Qbk (l ++ Qia ps grp)) := by
 unfold Qia
 by_cases h0 : grp < 0
 ·have hb : Qd2 grp = true := by simp [Qd2, h0]
  refine (Qqk lb bn ps grp (l ++ [(2, Qa0)]) 0 hps (by simp; omega) (by omega) (by omega)).mono fun n h => ?_
  rw [QdT]
  refine stT (decT h0) (stC (QfI (by omega)) ?_)
  rw [QjO, Qes, Qer l (2, [112, 97, 114, 116, 121]), hb]
  simpa [QaC, Qa0] using h
 by_cases h1 : grp > 99
 ·have hb : Qd2 grp = true := by simp [Qd2, h1]
  refine (Qnv lb bn ps grp (l ++ [(2, Qa0)]) 0 hps (by simp; omega) (by omega) (by omega)).mono fun n h => ?_
  rw [QdT]
  refine stF (decF h0) (stT (decT h1) (stC (QfI (by omega)) ?_))
  rw [QfV, Qes, Qer l (2, [112, 97, 114, 116, 121]), hb]
  refine stT (decT h1) ?_
  simpa [QaC, Qa0] using h
 ·have hb : Qd2 grp = false := by simp [Qd2]; omega
  refine (Qnv lb bn ps grp l grp hps (by omega) (by omega) (by omega)).mono fun n h => ?_
  rw [QdT]
  refine stF (decF h0) (stF (decF h1) ?_)
  rw [QfV, hb]
  refine stF (decF h1) ?_
  simpa [QaC] using h
def Qcy : Bs := [112, 101, 114, 115, 111, 110, 32]
def perF (i : Nat) (p : Pe) : List Fau := QaC (!Qhi p) 5 (Qcy ++ Lib.itoa (i : Int)) ++ QaC (!Qgr p) 8 (Qcy ++ Lib.itoa (i : Int))
theorem QnR (i : Nat) (p : Pe) : (perF i p).length ≤ 2 := by
 unfold perF
 have := QbN (!Qhi p) 5 (Qcy ++ Lib.itoa (i : Int))
 have := QbN (!Qgr p) 8 (Qcy ++ Lib.itoa (i : Int))
 rw [List.length_append]; omega
def QaS (ps : List Pe) (g : Int) : List Fau := idxF perF 0 ps ++ Qia ps g
theorem Qlp (bn : Bool) (ps : List Pe) (grp : Int) (hps : ps.length ≤ 100000) (hok : ∀ p ∈ ps, PeOk p) : Ret lb Qaz [.list bn (ps.map peE), .int .i64 grp] (Qbk (QaS ps grp)) := by
 have hlen : ∀ l : List Pe, (idxF perF 0 l).length ≤ 2 * l.length := fun l => Qgj QnR l 0
 refine .top rfl ((Evt.diag (Qfs (enc := peE) (l := ps) (P := fun p t n k => party_Check_L1 lb n k bn (ps.map peE) grp (p.length : Int) (idxF perF 0 p).isEmpty ((idxF perF 0 p).map fauE) = some (Qbk (QaS ps grp))) (by omega)
  ((QqC lb bn ps grp (idxF perF 0 ps) (by omega) (by have := hlen ps; omega)).mono fun n h k => by
    rw [QeO]
    exact stF (decF (by simp)) h)
  (fun p x t h h1 h2 h3 ih => by
   have hpl : p.length + (t.length + 1) = ps.length := by rw [← h]; simp
   have hx : PeOk x := hok x (by rw [← h]; simp)
   have hil := Qkp (z := (p.length : Int)) (by omega) (by omega)
   have hF := hlen p
   refine Evt.imp2 (Evt.imp2 (Qqh lb x hx) (Evt.imp2 (Qqe lb x hx) (Qeh lb (p.length : Int) (by omega) (by omega)) fun n a b => And.intro a b) fun n a b => And.intro a b) ih fun n ⟨c1, c2, c3⟩ hi k hk => ?_
   have hi := hi k hk
   rw [QeO]
   refine stT (decT h1) (stO _ h2 (stC rfl (stO _ rfl (stO _ rfl (stO _ rfl (stO _ c3 (stO _ rfl (stC (decT (by simp; omega)) (stO _ c1 (stO _ (Qbl _) ?_))))))))))
   rw [h3]
   rw [QgV, Nat.zero_add] at hi
   rw [show perF p.length x = QaC (!Qhi x) 5 (Qcy ++ Lib.itoa (p.length : Int)) ++ QaC (!Qgr x) 8 (Qcy ++ Lib.itoa (p.length : Int)) from rfl] at hi
   rw [← List.append_assoc] at hi
   have step : ∀ l : List Fau, l.length ≤ 999999 → (optO (C lb n Qcx [.agg [.str x.la, .str x.fi, .str x.ty]]) fun r => optO (CV.asB r) fun b => bif (!b) then chkO (room ((l.map fauE).length + 1) 24) (party_Check_L1 lb n k bn (ps.map peE) grp ((p ++ [x]).length : Int) (l.isEmpty && false) (l.map fauE ++ [[CV.int .i64 8, CV.str (Qcy ++ Lib.itoa (p.length : Int))]])) else party_Check_L1 lb n k bn (ps.map peE) grp ((p ++ [x]).length : Int) l.isEmpty (l.map fauE)) = party_Check_L1 lb n k bn (ps.map peE) grp ((p ++ [x]).length : Int) (l ++ QaC (!Qgr x) 8 (Qcy ++ Lib.itoa (p.length : Int))).isEmpty ((l ++ QaC (!Qgr x) 8 (Qcy ++ Lib.itoa (p.length : Int))).map fauE) := fun l hl =>
    stO _ c2 (stO _ (Qbl _) (acc (!Qgr x) l 8 (Qcy ++ Lib.itoa (p.length : Int)) hl (fun b l => party_Check_L1 lb n k bn (ps.map peE) grp ((p ++ [x]).length : Int) b l)))
   cases hn : Qhi x with
   | true =>
    refine stF rfl ((step _ (by omega)).trans ?_)
    rw [hn] at hi
    have e : idxF perF 0 p ++ QaC (!true) 5 (Qcy ++ Lib.itoa (p.length : Int)) = idxF perF 0 p := List.append_nil _
    rw [e] at hi
    exact hi
   | false =>
    rw [hn] at hi
    refine stT rfl (stC (QfI (by omega)) ?_)
    rw [Qes, Qer (idxF perF 0 p) (5, [112, 101, 114, 115, 111, 110, 32] ++ Lib.itoa (p.length : Int))]
    exact (step (idxF perF 0 p ++ [(5, Qcy ++ Lib.itoa (p.length : Int))]) (by simp; omega)).trans hi) ps [] rfl)).mono fun n h => by rw [QlI]; exact h)
end Go.Proofs
set_option linter.unusedSimpArgs false
set_option linter.unusedVariables false
namespace Go.Proofs
open Go.Am
variable (lb : Nat)
structure Sv where
 cd : Bs
 pe : Int
 sg : Int
def svE (x : Sv) : List CV := [.str x.cd, .int .i64 x.pe, .int .i64 x.sg]
def Qkx : Bs := [108, 111, 99, 97, 116, 111, 114]
def Qhw : Bs := [108, 105, 109, 105, 116]
def Qdn : Bs := [115, 101, 103, 115]
def segS : Bs := [115, 101, 103, 32]
def Qb9 : Bs := [115, 101, 114, 118, 105, 99, 101, 32]
def Qjk (x : Int) : Bool := decide (x < 0) || decide (x ≥ 52596000)
def QjM (np ns : Int) (x : Sv) : Bool := decide (x.pe < 0) || (decide (x.pe ≥ np) || (decide (x.sg < 0) || decide (x.sg ≥ ns)))
def svF (np ns : Int) (i : Nat) (x : Sv) : List Fau := QaC (!Qc5 x.cd 4 4) 5 (Qb9 ++ Lib.itoa (i : Int)) ++ QaC (QjM np ns x) 7 (Qb9 ++ Lib.itoa (i : Int))
def segF (i : Nat) (s : Sg) : List Fau := (Qdz s).map fun e => (e, segS ++ Lib.itoa (i : Int))
def Qlt (loc : Bs) (ps : List Pe) (g : Int) (l : List Sg) (svs : List Sv) (lim : Int) : List Fau :=
 (((((QaC (!Qc5 loc 6 6) 5 Qkx ++ QaC (Qjk lim) 13 Qhw) ++ QaS ps g) ++ QaC (decide ((l.length : Int) > 24)) 4 Qdn) ++ QaC (marE (mars l) != 0) (marE (mars l)) Qdn) ++ idxF segF 0 l) ++ idxF (svF ps.length l.length) 0 svs
theorem accT (l : List Fau) (e : Int) (s : Bs) (hl : l.length ≤ 999999) (J : Bool → List (List CV) → Option CV) :
  chkO (room ((l.map fauE).length + 1) 24) (J (l.isEmpty && false) (l.map fauE ++ [[CV.int .i64 e, CV.str s]])) = J (l ++ QaC true e s).isEmpty ((l ++ QaC true e s).map fauE) := by
 refine stC (QfI (by omega)) ?_
 rw [Qes, Qer l (e, s)]; rfl
theorem accF (l : List Fau) (e : Int) (s : Bs) (J : Bool → List (List CV) → Option CV) : J l.isEmpty (l.map fauE) = J (l ++ QaC false e s).isEmpty ((l ++ QaC false e s).map fauE) := by
 show _ = J (l ++ []).isEmpty ((l ++ []).map fauE)
 rw [List.append_nil]
theorem Qrg (np ns : Int) (i : Nat) (x : Sv) : (svF np ns i x).length ≤ 2 := by
 unfold svF
 have := QbN (!Qc5 x.cd 4 4) 5 (Qb9 ++ Lib.itoa (i : Int))
 have := QbN (QjM np ns x) 7 (Qb9 ++ Lib.itoa (i : Int))
 rw [List.length_append]; omega
theorem QgI (b : Bool) (e : Int) : (Qb3 b e).length ≤ 1 := by cases b <;> simp [Qb3]
theorem QhS (s : Sg) : (Qdz s).length ≤ 4 := by
 unfold Qdz
 have := QgI (QdZ s) 5
 have := QgI (Qfv s) 13
 have := QgI (QeI s.cls) 16
 have := QgI (stOk s.st) 10
 simp only [List.length_append]; omega
theorem QqT (i : Nat) (s : Sg) : (segF i s).length ≤ 4 := by unfold segF; rw [List.length_map]; exact QhS s
theorem QrS (n wn : Nat) (jf : List UInt8) (jb : Bool) (aper3 : List (List CV)) (je : Int) (ja : Bool) (aseg6 : List (List CV)) (jd : Bool) (aser9 : List (List CV)) (jc : Int) (jr : CV) (wi : Int) (s210 : List UInt8) (jp : Bool) (l17 : List (List CV)) (js : CV) (jo : Bool × List (List CV)) (jG : CV) (c205 : List CV) (wX wF wK wZ : CV) (x : Sv) (h7 : wF = .int .i64 x.pe) (h8 : wK = .int .i64 x.sg) (G : List Fau) (hG : G.length ≤ 999999) :
  Qcc lb n wn jf jb aper3 je ja aseg6 jd aser9 jc jr wi s210 jp l17 js jo jG c205 wX wF wK wZ G.isEmpty (G.map fauE) = QaN lb n wn jf jb aper3 je ja aseg6 jd aser9 jc jr jp l17 js jo jG (IntKind.wrap .i64 (wi + 1)) (G ++ QaC (QjM aper3.length aseg6.length x) 7 (Qb9 ++ s210)).isEmpty ((G ++ QaC (QjM aper3.length aseg6.length x) 7 (Qb9 ++ s210)).map fauE) := by
 subst h7; subst h8
 have hT := accT G 7 (Qb9 ++ s210) hG (fun b l => QaN lb n wn jf jb aper3 je ja aseg6 jd aser9 jc jr jp l17 js jo jG (IntKind.wrap .i64 (wi + 1)) b l)
 have hF := accF G 7 (Qb9 ++ s210) (fun b l => QaN lb n wn jf jb aper3 je ja aseg6 jd aser9 jc jr jp l17 js jo jG (IntKind.wrap .i64 (wi + 1)) b l)
 rw [Qh5]
 unfold QjM
 refine stO _ (Qaq ..) ?_
 cases decide (x.pe < 0) with
 | true => exact stT rfl hT
 | false =>
  refine stF rfl (stO _ (Qaq ..) ?_)
  cases decide (x.pe ≥ (aper3.length : Int)) with
  | true => exact stT rfl hT
  | false =>
   refine stF rfl (stO _ (Qaq ..) ?_)
   cases decide (x.sg < 0) with
   | true => exact stT rfl hT
   | false =>
    refine stF rfl (stO _ (Qaq ..) ?_)
    cases decide (x.sg ≥ (aseg6.length : Int)) with
    | true => exact stT rfl hT
    | false => exact stF rfl hF
theorem Qr1 (n : Nat) (jf : List UInt8) (jb : Bool) (aper3 : List (List CV)) (je : Int) (ja : Bool) (aseg6 : List (List CV)) (jd : Bool) (aser9 : List (List CV)) (jc : Int) (jr : CV) (jp : Bool) (l17 : List (List CV)) (js : CV) (jo : Bool × List (List CV)) (jG : CV) (svs : List Sv) (h9 : aser9 = svs.map svE) (hl : svs.length ≤ 100000) (hok : ∀ x ∈ svs, x.cd.length ≤ 281474976710656) (F : List Fau) (hF : F.length ≤ 500000) :
  Evt fun n => Qen lb n jf jb aper3 je ja aseg6 jd aser9 jc jr jp l17 js jo jG F.isEmpty (F.map fauE) = some (Qbk (F ++ idxF (svF aper3.length aseg6.length) 0 svs)) := by
 subst h9
 have hlen : ∀ l : List Sv, (idxF (svF aper3.length aseg6.length) 0 l).length ≤ 2 * l.length := fun l => Qgj (Qrg _ _) l 0
 refine (Evt.diag (Qfs (enc := svE) (l := svs) (P := fun p t n k => QaN lb n k jf jb aper3 je ja aseg6 jd (svs.map svE) jc jr jp l17 js jo jG (p.length : Int) (F ++ idxF (svF aper3.length aseg6.length) 0 p).isEmpty ((F ++ idxF (svF aper3.length aseg6.length) 0 p).map fauE) = some (Qbk (F ++ idxF (svF aper3.length aseg6.length) 0 svs))) (by omega)
  (.all fun n k => by
   rw [Qev]
   refine stF (decF (by simp)) ?_
   rw [QhT]
   rfl)
  (fun p x t h h1 h2 h3 ih => by
   have hpl : p.length + (t.length + 1) = svs.length := by rw [← h]; simp
   have hx := hok x (by rw [← h]; simp)
   have hil := Qkp (z := (p.length : Int)) (by omega) (by omega)
   have hP := hlen p
   refine Evt.imp2 (Evt.imp2 (Qea lb x.cd 4 4 hx) (Qeh lb (p.length : Int) (by omega) (by omega)) fun n a b => And.intro a b) ih fun n ⟨c1, c2⟩ hi k hk => ?_
   have hi := hi k hk
   rw [Qev]
   refine stT (decT h1) (stO _ h2 (stC rfl (stO _ rfl (stO _ rfl (stO _ rfl (stO _ c2 (stO _ rfl (stC (decT (by simp; omega)) (stO _ c1 (stO _ (Qbl _) ?_))))))))))
   refine (acc (!Qc5 x.cd 4 4) (F ++ idxF (svF aper3.length aseg6.length) 0 p) 5 (Qb9 ++ Lib.itoa (p.length : Int)) (by simp; omega) (fun b l => Qcc lb n k jf jb aper3 je ja aseg6 jd (svs.map svE) jc jr (p.length : Int) (Lib.itoa (p.length : Int)) jp l17 js jo jG (svE x) (.str x.cd) (.int .i64 x.pe) (.int .i64 x.sg) (.str (Lib.itoa (p.length : Int))) b l)).trans ?_
   refine (QrS (x := x) (h7 := rfl) (h8 := rfl) (hG := by
    have := QbN (!Qc5 x.cd 4 4) 5 (Qb9 ++ Lib.itoa (p.length : Int))
    rw [List.length_append, List.length_append]; omega) ..).trans ?_
   rw [h3]
   rw [QgV, Nat.zero_add] at hi
   rw [show svF aper3.length aseg6.length p.length x = QaC (!Qc5 x.cd 4 4) 5 (Qb9 ++ Lib.itoa (p.length : Int)) ++ QaC (QjM aper3.length aseg6.length x) 7 (Qb9 ++ Lib.itoa (p.length : Int)) from rfl] at hi
   simp only [List.append_assoc] at hi ⊢
   exact hi) svs [] rfl)).mono fun n h => by
   rw [QiM]
   have e : F ++ idxF (svF aper3.length aseg6.length) 0 ([] : List Sv) = F := List.append_nil F
   rw [e] at h
   exact h
theorem Qq2 (n wu : Nat) (jf : List UInt8) (jb : Bool) (aper3 : List (List CV)) (je : Int) (ja : Bool) (aseg6 : List (List CV)) (jd : Bool) (aser9 : List (List CV)) (jc : Int) (jr : CV) (wj : Int) (jp : Bool) (l17 : List (List CV)) (js : CV) (jo : Bool × List (List CV)) (jG : CV) (c95 : List CV) (wP wQ wO wR wD wB wC wy wz wA wI : CV) (wJ : Bool × List (List CV)) (m : Nat) (h59 : wj = (m : Int)) (hm : m ≤ 1000000) (er : List Int) (hr : wI = errV er) (hp : wJ = (er.isEmpty, er.map icv)) (her : er.length ≤ 10) (F : List Fau) (hF : F.length ≤ 900000) (hdec : C lb n Qck [.int .i64 wj] = some (.str (Lib.itoa (m : Int)))) : ∀ (t p : List Int), p ++ t = er → ∀ k, t.length < k →
  Qcp lb n k wu jf jb aper3 je ja aseg6 jd aser9 jc jr wj jp l17 js jo jG c95 wP wQ wO wR wD wB wC wy wz wA wI wJ (p.length : Int) (F ++ p.map fun e => (e, segS ++ Lib.itoa (m : Int))).isEmpty ((F ++ p.map fun e => (e, segS ++ Lib.itoa (m : Int))).map fauE) = Qct lb n wu jf jb aper3 je ja aseg6 jd aser9 jc jr jp l17 js jo jG (IntKind.wrap .i64 (wj + 1)) (F ++ er.map fun e => (e, segS ++ Lib.itoa (m : Int))).isEmpty ((F ++ er.map fun e => (e, segS ++ Lib.itoa (m : Int))).map fauE)
 | [], p, h, k, hk => by
  obtain ⟨k, rfl⟩ : ∃ j, k = j + 1 := ⟨k - 1, by simp at hk; omega⟩
  have hpe : p = er := by simpa using h
  subst hpe; subst hp
  rw [Qeu]
  refine stF (decF (by simp)) ?_
  rw [QiK]
 | e :: t, p, h, k, hk => by
  obtain ⟨k, rfl⟩ : ∃ j, k = j + 1 := ⟨k - 1, by simp at hk; omega⟩
  have hpl : p.length + (t.length + 1) = er.length := by rw [← h]; simp
  have hil := Qkp (z := (m : Int)) (by omega) (by omega)
  have hw : IntKind.wrap .i64 ((p.length : Int) + 1) = ((p ++ [e]).length : Int) := by rw [Qba (by omega) (by omega)]; simp
  have hat : atL (er.map icv) (p.length : Int) = some (icv e) := QbP (by rw [List.getElem?_map, ← h]; simp)
  have ih := Qq2 n wu jf jb aper3 je ja aseg6 jd aser9 jc jr wj jp l17 js jo jG c95 wP wQ wO wR wD wB wC wy wz wA wI wJ m h59 hm er hr hp her F hF hdec t (p ++ [e]) (by rw [← h]; simp) k (by simp at hk; omega)
  have hFl : (F ++ p.map fun e => (e, segS ++ Lib.itoa (m : Int))).length ≤ 999999 := by rw [List.length_append, List.length_map]; omega
  subst hr; subst hp
  rw [Qeu]
  refine stT (decT (by simp; omega)) (stO _ rfl (stO _ hat (stC rfl (stO _ rfl (stO _ hdec (stO _ rfl (stC (decT (by simp; omega)) (stC rfl ?_))))))))
  refine (accT (F ++ p.map fun e => (e, segS ++ Lib.itoa (m : Int))) e (segS ++ Lib.itoa (m : Int)) hFl (fun b l => Qcp lb n k wu jf jb aper3 je ja aseg6 jd aser9 jc jr wj jp l17 js jo jG c95 wP wQ wO wR wD wB wC wy wz wA (errV er) (er.isEmpty, er.map icv) (IntKind.wrap .i64 ((p.length : Int) + 1)) b l)).trans ?_
  rw [hw]
  rw [List.map_append, ← List.append_assoc] at ih
  exact ih
theorem Qr9 (n : Nat) (jf : List UInt8) (jb : Bool) (aper3 : List (List CV)) (je : Int) (ja : Bool) (aseg6 : List (List CV)) (jd : Bool) (aser9 : List (List CV)) (jc : Int) (jr : CV) (jp : Bool) (l17 : List (List CV)) (js : CV) (jo : Bool × List (List CV)) (jG : CV) (segs : List Sg) (h6 : aseg6 = segs.map sgE) (hs : segs.length ≤ 1000) (hsok : ∀ s ∈ segs, s.car.length ≤ 281474976710656 ∧ s.fr.length ≤ 281474976710656 ∧ s.to.length ≤ 281474976710656) (svs : List Sv) (h9 : aser9 = svs.map svE) (hl : svs.length ≤ 100000) (hok : ∀ x ∈ svs, x.cd.length ≤ 281474976710656) (F : List Fau) (hF : F.length ≤ 400000) :
  Evt fun n => Qco lb n jf jb aper3 je ja aseg6 jd aser9 jc jr jp l17 js jo jG F.isEmpty (F.map fauE) = some (Qbk ((F ++ idxF segF 0 segs) ++ idxF (svF aper3.length aseg6.length) 0 svs)) := by
 have hlen : ∀ l : List Sg, (idxF segF 0 l).length ≤ 4 * l.length := fun l => Qgj QqT l 0
 have h8 := Qr1 lb 0 jf jb aper3 je ja aseg6 jd aser9 jc jr jp l17 js jo jG svs h9 hl hok (F ++ idxF segF 0 segs) (by have := hlen segs; rw [List.length_append]; omega)
 subst h6
 refine (Evt.diag (Qfs (enc := sgE) (l := segs) (P := fun p t n k => Qct lb n k jf jb aper3 je ja (segs.map sgE) jd aser9 jc jr jp l17 js jo jG (p.length : Int) (F ++ idxF segF 0 p).isEmpty ((F ++ idxF segF 0 p).map fauE) = some (Qbk ((F ++ idxF segF 0 segs) ++ idxF (svF aper3.length (segs.map sgE).length) 0 svs))) (by omega)
  (h8.mono fun n h k => by
   rw [Qep]
   exact stF (decF (by simp)) h)
  (fun p x t h h1 h2 h3 ih => by
   have hpl : p.length + (t.length + 1) = segs.length := by rw [← h]; simp
   have hx := hsok x (by rw [← h]; simp)
   have hP := hlen p
   refine Evt.imp2 (Evt.imp2 (Qrx lb x hx.1 hx.2.1 hx.2.2) (Evt.imp2 (Qeh lb (p.length : Int) (by omega) (by omega)) (Evt.ge 6) fun n a b => And.intro a b) fun n a b => And.intro a b) ih fun n ⟨c1, c2, c3⟩ hi k hk => ?_
   have hi := hi k hk
   rw [Qep]
   refine stT (decT h1) (stO _ h2 (stC rfl (stO _ rfl (stO _ rfl (stO _ rfl (stO _ rfl (stO _ rfl (stO _ rfl (stO _ rfl (stO _ rfl (stO _ rfl (stO _ rfl (stO _ c1 (stO _ rfl ?_))))))))))))))
   have hL := Qq2 (lb := lb) (n := n) (wu := k) (m := p.length) (wj := (p.length : Int)) (h59 := rfl) (hm := by omega) (er := Qdz x) (wI := errV (Qdz x)) (wJ := ((Qdz x).isEmpty, (Qdz x).map icv)) (hr := rfl) (hp := rfl) (her := by have := QhS x; omega) (F := F ++ idxF segF 0 p) (hF := by rw [List.length_append]; omega) (hdec := c2) (jf := jf) (jb := jb) (aper3 := aper3) (je := je) (ja := ja) (aseg6 := segs.map sgE) (jd := jd) (aser9 := aser9) (jc := jc) (jr := jr) (jp := jp) (l17 := l17) (js := js) (jo := jo) (jG := jG) (c95 := sgE x) (wP := .str x.car) (wQ := .int .i64 x.num) (wO := .int .i64 x.day) (wR := .str x.fr) (wD := .str x.to) (wB := .int .i64 x.dep) (wC := .int .i64 x.arr) (wy := .str x.cls) (wz := .int .i64 x.st) (wA := .int .i64 x.mar) (Qdz x) [] rfl n (by have := QhS x; omega)
   rw [List.map_nil, List.append_nil, h3] at hL
   refine Eq.trans hL ?_
   rw [QgV, Nat.zero_add] at hi
   rw [show segF p.length x = (Qdz x).map (fun e => (e, segS ++ Lib.itoa (p.length : Int))) from rfl] at hi
   rw [List.append_assoc]
   exact hi) segs [] rfl)).mono fun n h => by
   rw [QiO]
   have e : F ++ idxF segF 0 ([] : List Sg) = F := List.append_nil F
   rw [e] at h
   exact h
theorem Qoc (s : Bs) (hs : s.length ≤ 281474976710656) : Ret lb QdS [.str s] (.bool (Qc5 s 6 6)) :=
 .top rfl ((Qea lb s 6 6 hs).mono fun n h => by
  rw [Qi4]
  exact stO _ h rfl)
theorem Qrz (ps : List Pe) (g : Int) : (QaS ps g).length ≤ 2 * ps.length + 3 := by
 unfold QaS Qia
 have := Qgj QnR ps 0
 have := QbN (Qd2 g) 2 Qa0
 have := QbN (QaU ps.length (bif Qd2 g then 0 else g)) 4 Qa0
 have := QbN (decide (QcH 0 ps > 0)) 25 Qa0
 simp only [List.length_append]; omega
theorem Qsd (n : Nat) (jf : List UInt8) (jb : Bool) (aper3 : List (List CV)) (je : Int) (ja : Bool) (aseg6 : List (List CV)) (jd : Bool) (aser9 : List (List CV)) (jc : Int) (jp : Bool) (l17 : List (List CV)) (js : CV) (jo : Bool × List (List CV)) (segs : List Sg) (h6 : aseg6 = segs.map sgE) (hs : segs.length ≤ 1000) (hsok : ∀ s ∈ segs, s.car.length ≤ 281474976710656 ∧ s.fr.length ≤ 281474976710656 ∧ s.to.length ≤ 281474976710656) (svs : List Sv) (h9 : aser9 = svs.map svE) (hl : svs.length ≤ 100000) (hok : ∀ x ∈ svs, x.cd.length ≤ 281474976710656) (F : List Fau) (hF : F.length ≤ 300000) :
  Evt fun n => Qbw lb n jf jb aper3 je ja aseg6 jd aser9 jc jp l17 js jo F.isEmpty (F.map fauE) = some (Qbk (((F ++ QaC (marE (mars segs) != 0) (marE (mars segs)) Qdn) ++ idxF segF 0 segs) ++ idxF (svF aper3.length aseg6.length) 0 svs)) := by
 have h4 := Qr9 lb 0 jf jb aper3 je ja aseg6 jd aser9 jc (.int .i64 (marE (mars segs))) jp l17 js jo (.list false ((mars segs).map icv)) segs h6 hs hsok svs h9 hl hok (F ++ QaC (marE (mars segs) != 0) (marE (mars segs)) Qdn) (by
  have := QbN (marE (mars segs) != 0) (marE (mars segs)) Qdn
  rw [List.length_append]; omega)
 have hmm : (mars segs).length ≤ 1000 := by simpa [mars] using hs
 subst h6
 refine Evt.imp2 (Evt.imp2 (Qiu lb ja segs (by omega)) (QgR lb false (mars segs) (by omega)) fun n a b => And.intro a b) h4 fun n ⟨c1, c2⟩ h => ?_
 rw [QiJ]
 refine stO _ c1 (stO _ c2 (stO _ (Qaq ..) ?_))
 exact (acc (marE (mars segs) != 0) F (marE (mars segs)) Qdn (by omega) (fun b l => Qco lb n jf jb aper3 je ja (segs.map sgE) jd aser9 jc (.int .i64 (marE (mars segs))) jp l17 js jo (.list false ((mars segs).map icv)) b l)).trans h
theorem Qse (n : Nat) (jf : List UInt8) (jb : Bool) (aper3 : List (List CV)) (je : Int) (ja : Bool) (aseg6 : List (List CV)) (jd : Bool) (aser9 : List (List CV)) (jc : Int) (ps : List Pe) (h3 : aper3 = ps.map peE) (hps : ps.length ≤ 1000) (hpok : ∀ p ∈ ps, PeOk p) (segs : List Sg) (h6 : aseg6 = segs.map sgE) (hs : segs.length ≤ 1000) (hsok : ∀ s ∈ segs, s.car.length ≤ 281474976710656 ∧ s.fr.length ≤ 281474976710656 ∧ s.to.length ≤ 281474976710656) (svs : List Sv) (h9 : aser9 = svs.map svE) (hl : svs.length ≤ 100000) (hok : ∀ x ∈ svs, x.cd.length ≤ 281474976710656) (F : List Fau) (hF : F.length ≤ 10) :
  Evt fun n => Qbv lb n jf jb aper3 je ja aseg6 jd aser9 jc F.isEmpty (F.map fauE) = some (Qbk (((((F ++ QaS ps je) ++ QaC (decide ((segs.length : Int) > 24)) 4 Qdn) ++ QaC (marE (mars segs) != 0) (marE (mars segs)) Qdn) ++ idxF segF 0 segs) ++ idxF (svF ps.length segs.length) 0 svs)) := by
 have hpl := Qrz ps je
 have h4 := Qsd lb 0 jf jb aper3 je ja aseg6 jd aser9 jc F.isEmpty (F.map fauE) (Qbk (QaS ps je)) ((QaS ps je).isEmpty, (QaS ps je).map fauE) segs h6 hs hsok svs h9 hl hok ((F ++ QaS ps je) ++ QaC (decide ((segs.length : Int) > 24)) 4 Qdn) (by
  have := QbN (decide ((segs.length : Int) > 24)) 4 Qdn
  simp only [List.length_append]; omega)
 subst h3; subst h6
 rw [List.length_map, List.length_map] at h4
 refine Evt.imp2 (Qlp lb jb ps je (by omega) hpok) h4 fun n c1 h => ?_
 rw [QiL]
 refine stO _ c1 (stO _ rfl (stC (by simp [fauE]) (stC (QjJ (by simp; omega)) ?_)))
 have e0 : ∀ a b : List Fau, (a.isEmpty && (b.map fauE).isEmpty) = (a ++ b).isEmpty := fun a b => by cases a <;> cases b <;> rfl
 have e1 := e0 F (QaS ps je)
 have e2 : F.map fauE ++ (QaS ps je).map fauE = (F ++ QaS ps je).map fauE := by simp
 show (bif decide ((((segs.map sgE).length : Nat) : Int) > 24) then chkO (room ((F.map fauE ++ (QaS ps je).map fauE).length + 1) 24) (Qbw lb n jf jb (ps.map peE) je ja (segs.map sgE) jd aser9 jc F.isEmpty (F.map fauE) (Qbk (QaS ps je)) ((QaS ps je).isEmpty, (QaS ps je).map fauE) ((F.isEmpty && ((QaS ps je).map fauE).isEmpty) && false) ((F.map fauE ++ (QaS ps je).map fauE) ++ [[CV.int .i64 4, CV.str Qdn]])) else Qbw lb n jf jb (ps.map peE) je ja (segs.map sgE) jd aser9 jc F.isEmpty (F.map fauE) (Qbk (QaS ps je)) ((QaS ps je).isEmpty, (QaS ps je).map fauE) (F.isEmpty && ((QaS ps je).map fauE).isEmpty) (F.map fauE ++ (QaS ps je).map fauE)) = _
 rw [e1, e2, List.length_map]
 exact (acc (decide ((segs.length : Int) > 24)) (F ++ QaS ps je) 4 Qdn (by rw [List.length_append]; omega) (fun b l => Qbw lb n jf jb (ps.map peE) je ja (segs.map sgE) jd aser9 jc F.isEmpty (F.map fauE) (Qbk (QaS ps je)) ((QaS ps je).isEmpty, (QaS ps je).map fauE) b l)).trans h
theorem QjP (loc : Bs) (pn : Bool) (ps : List Pe) (g : Int) (bn : Bool) (l : List Sg) (rn : Bool) (svs : List Sv) (lim : Int) (hloc : loc.length ≤ 281474976710656) (hps : ps.length ≤ 1000) (hpok : ∀ p ∈ ps, PeOk p) (hs : l.length ≤ 1000) (hsok : ∀ s ∈ l, s.car.length ≤ 281474976710656 ∧ s.fr.length ≤ 281474976710656 ∧ s.to.length ≤ 281474976710656) (hl : svs.length ≤ 100000) (hok : ∀ x ∈ svs, x.cd.length ≤ 281474976710656) :
  Ret lb Qac [.agg [.str loc, .list pn (ps.map peE), .int .i64 g, .list bn (l.map sgE), .list rn (svs.map svE), .int .i64 lim]] (Qbk (Qlt loc ps g l svs lim)) := by
 have h1 : ∀ F : List Fau, F.length ≤ 9 → Evt fun n => booking_Check_J1 lb n loc pn (ps.map peE) g bn (l.map sgE) rn (svs.map svE) lim F.isEmpty (F.map fauE) = some (Qbk ((((((F ++ QaC (Qjk lim) 13 Qhw) ++ QaS ps g) ++ QaC (decide ((l.length : Int) > 24)) 4 Qdn) ++ QaC (marE (mars l) != 0) (marE (mars l)) Qdn) ++ idxF segF 0 l) ++ idxF (svF ps.length l.length) 0 svs)) := fun F hF => by
  refine (Qse lb 0 loc pn (ps.map peE) g bn (l.map sgE) rn (svs.map svE) lim ps rfl hps hpok l rfl hs hsok svs rfl hl hok (F ++ QaC (Qjk lim) 13 Qhw) (by
   have := QbN (Qjk lim) 13 Qhw
   rw [List.length_append]; omega)).mono fun n h => ?_
  have hT := accT F 13 Qhw (by omega) (fun b m => Qbv lb n loc pn (ps.map peE) g bn (l.map sgE) rn (svs.map svE) lim b m)
  have hN := accF F 13 Qhw (fun b m => Qbv lb n loc pn (ps.map peE) g bn (l.map sgE) rn (svs.map svE) lim b m)
  rw [QiP]
  unfold Qjk at h ⊢
  cases h0 : decide (lim < 0) with
  | true => rw [h0] at h; exact stT rfl (hT.trans h)
  | false =>
   rw [h0] at h
   refine stF rfl ?_
   cases h9 : decide (lim ≥ 52596000) with
   | true => rw [h9] at h; exact stT rfl (hT.trans h)
   | false => rw [h9] at h; exact stF rfl (hN.trans h)
 refine .top rfl (Evt.imp2 (Qoc lb loc hloc) (h1 (QaC (!Qc5 loc 6 6) 5 Qkx) (by have := QbN (!Qc5 loc 6 6) 5 Qkx; omega)) fun n c h => ?_)
 rw [QkE]
 refine stO _ c (stO _ (Qbl _) ?_)
 unfold Qlt
 cases hc : Qc5 loc 6 6 with
 | true => rw [hc] at h; exact stF rfl h
 | false => rw [hc] at h; exact stT rfl h
end Go.Proofs
