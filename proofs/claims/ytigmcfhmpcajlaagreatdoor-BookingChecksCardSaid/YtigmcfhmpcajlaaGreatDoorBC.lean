/- Chapter 35: bookings on plain data: segments, their marriages. Conditions: as each says. -/
import Derived.Test.YtigmcfhmpcajlaaGreatDoorBA
import Derived.Test.YtigmcfhmpcajlaaGreatDoorRA
import Derived.Test.YtigmcfhmpcajlaaGreatDoorGb
import Derived.Test.YtigmcfhmpcajlaaGreatDoorGc
set_option linter.unusedSimpArgs false
set_option linter.unusedVariables false
namespace Go.Proofs
open Go.Am
variable (lb : Nat)
structure Sg where
 car : Bs
 num : Int
 day : Int
 fr : Bs
 to : Bs
 dep : Int
 arr : Int
 cls : Bs
 st : Int
 mar : Int
def sgE (s : Sg) : List CV := [.str s.car, .int .i64 s.num, .int .i64 s.day, .str s.fr, .str s.to, .int .i64 s.dep, .int .i64 s.arr, .str s.cls, .int .i64 s.st, .int .i64 s.mar]
def mars (l : List Sg) : List Int := l.map Sg.mar
theorem QoS (bn : Bool) (l : List Sg) (hl : l.length ≤ 1000000) : Ret lb QaJ [.list bn (l.map sgE)] (.list false ((mars l).map icv)) :=
 .top rfl ((Evt.diag (QdT (enc := sgE) (l := l) (P := fun p t n k => Qcy lb n k bn (l.map sgE) ((mars p).map icv) (p.length : Int) = some (.list false ((mars l).map icv))) (by omega)
  (.all fun n k => by
   rw [QdW]
   refine stF (decF (by simp)) ?_
   rw [QhK])
  (fun p x t h h1 h2 h3 ih => ih.mono fun n hi k hk => by
   have hpl : p.length + (t.length + 1) = l.length := by rw [← h]; simp
   rw [QdW]
   refine stT (decT h1) (stO _ h2 (stC rfl (stO _ rfl (stO _ rfl (stO _ rfl (stO _ rfl (stO _ rfl (stO _ rfl (stO _ rfl (stO _ rfl (stO _ rfl (stO _ rfl (stC rfl (stC ?_ ?_))))))))))))))
   ·simp [room, mars]; omega
   ·rw [h3]
    have := hi k hk
    simpa [mars, icv] using this) l [] rfl)).mono fun n h => by
   rw [QiZ]
   refine stC ?_ h
   simp; omega)
end Go.Proofs
set_option linter.unusedSimpArgs false
set_option linter.unusedVariables false
namespace Go.Proofs
open Go.Am
variable (lb : Nat)
def stOk (x : Int) : Bool := decide (1 ≤ x ∧ x ≤ 7)
def stWords : Bs := [72, 75, 72, 76, 75, 76, 84, 75, 85, 78, 85, 67, 88, 88]
def QtO (x : Int) : Bs := (stWords.take (2 * x).toNat).drop (2 * x - 2).toNat
def Qhd (x : Int) : CV := bif stOk x then .tup [.str (QtO x), .int .i64 0] else .tup [.str [], .int .i64 8]
theorem QmI (x : Int) : Ret lb QgJ [.int .i64 x] (Qhd x) :=
 .top rfl (.all fun n => by
  rw [Qn5]
  unfold Qhd
  by_cases h1 : x < 1
  ·have : stOk x = false := by simp [stOk]; omega
   rw [this]
   exact stT (decT h1) rfl
  ·by_cases h2 : x > 7
   ·have : stOk x = false := by simp [stOk]; omega
    rw [this]
    exact stF (decF h1) (stT (decT h2) rfl)
   ·have : stOk x = true := by simp [stOk]; omega
    have hw : IntKind.wrap .i64 (2 * x) = 2 * x := QaK (by omega) (by omega)
    have hw2 : IntKind.wrap .i64 (2 * x - 2) = 2 * x - 2 := QaK (by omega) (by omega)
    rw [this, hw, hw2]
    exact stF (decF h1) (stF (decF h2) (stC (decT (by omega)) (stC (decT (by omega)) rfl))))
def Qcb (s : Sg) : Bool := Qe1 s.car && (Qcs s.fr && Qcs s.to)
def Qc1 (s : Sg) : Bool := decide (0 ≤ s.dep ∧ s.dep < s.arr ∧ s.arr < 52596000)
def Qbb (b : Bool) (e : Int) : List Int := bif b then [] else [e]
def Qcn (s : Sg) : List Int := ((Qbb (Qcb s) 5 ++ Qbb (Qc1 s) 13) ++ Qbb (Qcw s.cls) 16) ++ Qbb (stOk s.st) 10
def errV (l : List Int) : CV := .list l.isEmpty (l.map icv)
theorem Qgk {l : List Int} (h : l.length ≤ 8) : room ((l.map icv).length + 1) 8 = true := Qev (by simp; omega)
theorem Qhc (l : List Int) (e : Int) : l.map icv ++ [[CV.int .i64 e]] = (l ++ [e]).map icv := by simp [icv]
theorem Qhb (l : List Int) (e : Int) : (l.isEmpty && false) = (l ++ [e]).isEmpty := by simp
theorem QuR (s : Sg) (l : List Int) (hl : l.length ≤ 3) : Evt fun n => Qem lb n s.car s.num s.day s.fr s.to s.dep s.arr s.cls s.st s.mar l.isEmpty (l.map icv) = some (errV (l ++ Qbb (stOk s.st) 10)) :=
 (QmI lb s.st).mono fun n h => by
  rw [Qlg]
  refine stO _ h ?_
  unfold Qhd
  cases stOk s.st with
  | true =>
   refine stO _ rfl (stO _ rfl (stO _ rfl (stO _ rfl (stO _ rfl (stF rfl ?_)))))
   show _ = some (errV (l ++ []))
   rw [List.append_nil]; rfl
  | false =>
   refine stO _ rfl (stO _ rfl (stO _ rfl (stO _ rfl (stO _ rfl (stT rfl (stC (Qgk (by omega)) ?_))))))
   rw [Qhc, Qhb l 10]; rfl
theorem QuW (s : Sg) (l : List Int) (hl : l.length ≤ 2) : Evt fun n => QcI lb n s.car s.num s.day s.fr s.to s.dep s.arr s.cls s.st s.mar l.isEmpty (l.map icv) = some (errV ((l ++ Qbb (Qcw s.cls) 16) ++ Qbb (stOk s.st) 10)) := by
 refine Evt.imp2 (QnL lb s.cls) (QuR lb s (l ++ Qbb (Qcw s.cls) 16) (by unfold Qbb; cases Qcw s.cls <;> simp <;> omega)) fun n h h3 => ?_
 rw [Qlk]
 refine stO _ h (stO _ (QaL _) ?_)
 cases hc : Qcw s.cls with
 | true =>
  rw [hc] at h3
  refine stF rfl ?_
  have e : l ++ Qbb true 16 = l := List.append_nil l
  rw [e] at h3 ⊢
  exact h3
 | false =>
  rw [hc] at h3
  refine stT rfl (stC (Qgk (by omega)) ?_)
  rw [Qhc, Qhb l 16]
  exact h3
theorem Qu5 (s : Sg) (l : List Int) (hl : l.length ≤ 1) : Evt fun n => QcH lb n s.car s.num s.day s.fr s.to s.dep s.arr s.cls s.st s.mar l.isEmpty (l.map icv) = some (errV (((l ++ Qbb (Qc1 s) 13) ++ Qbb (Qcw s.cls) 16) ++ Qbb (stOk s.st) 10)) := by
 refine (QuW lb s (l ++ Qbb (Qc1 s) 13) (by unfold Qbb; cases Qc1 s <;> simp <;> omega)).mono fun n h => ?_
 rw [Qlc]
 cases ht : Qc1 s with
 | true =>
  rw [ht] at h
  have e : l ++ Qbb true 13 = l := List.append_nil l
  rw [e] at h ⊢
  simp only [Qc1, decide_eq_true_eq] at ht
  exact stF (decF (by omega)) (stF (decF (by omega)) (stF (decF (by omega)) h))
 | false =>
  rw [ht] at h
  simp only [Qc1, decide_eq_false_iff_not] at ht
  rw [Qhc, Qhb l 13]
  by_cases h1 : s.dep < 0
  ·exact stT (decT h1) (stC (Qgk (by omega)) h)
  ·by_cases h2 : s.dep ≥ s.arr
   ·exact stF (decF h1) (stT (decT h2) (stC (Qgk (by omega)) h))
   ·exact stF (decF h1) (stF (decF h2) (stT (decT (by omega)) (stC (Qgk (by omega)) h)))
theorem Qud (s : Sg) (h1 : s.car.length ≤ 281474976710656) (h2 : s.fr.length ≤ 281474976710656) (h3 : s.to.length ≤ 281474976710656) : Ret lb Qa7 [.agg (sgE s)] (errV (Qcn s)) := by
 refine .top rfl (Evt.imp2 (Evt.imp2 (QlV lb s.car h1) (Evt.imp2 (Qhy lb s.fr h2) (Qhy lb s.to h3) fun n a b => (⟨a, b⟩ : _ ∧ _)) fun n a b => (⟨a, b⟩ : _ ∧ _)) (Qu5 lb s (Qbb (Qcb s) 5) (by unfold Qbb; cases Qcb s <;> simp)) fun n ⟨c1, c2, c3⟩ h => ?_)
 rw [show top lb n Qa7 [.agg (sgE s)] = _ from Qn8 lb n s.car s.num s.day s.fr s.to s.dep s.arr s.cls s.st s.mar]
 refine stO _ c1 (stO _ (QaL _) ?_)
 unfold Qcn
 cases k1 : Qe1 s.car with
 | false =>
  have : Qcb s = false := by unfold Qcb; rw [k1]; rfl
  rw [this] at h ⊢
  exact stT rfl h
 | true =>
  refine stF rfl (stO _ c2 (stO _ (QaL _) ?_))
  cases k2 : Qcs s.fr with
  | false =>
   have : Qcb s = false := by unfold Qcb; rw [k1, k2]; rfl
   rw [this] at h ⊢
   exact stT rfl h
  | true =>
   refine stF rfl (stO _ c3 (stO _ (QaL _) ?_))
   have : Qcb s = Qcs s.to := by unfold Qcb; rw [k1, k2]; rfl
   rw [this] at h ⊢
   cases k3 : Qcs s.to with
   | false => rw [k3] at h; exact stT rfl h
   | true => rw [k3] at h; exact stF rfl h
end Go.Proofs
set_option linter.unusedSimpArgs false
set_option linter.unusedVariables false
namespace Go.Proofs
open Go.Am
variable (lb : Nat)
structure Pe where
 la : Bs
 fi : Bs
 ty : Bs
def peE (p : Pe) : List CV := [.str p.la, .str p.fi, .str p.ty]
def PeOk (p : Pe) : Prop := p.la.length ≤ 281474976710656 ∧ p.fi.length ≤ 281474976710656 ∧ p.ty.length ≤ 281474976710656
def infB (p : Pe) : Bool := p.ty == [73, 78, 70]
def aduB (p : Pe) : Bool := !infB p && !(p.ty == [67, 72, 68])
def QdD (p : Pe) : Bool := QfG p.la && QfG p.fi
def QeK (p : Pe) : Bool := Qby p.ty 3 3
def QbT : Int → List Pe → Int
 | n, [] => n
 | n, p :: t => QbT ((n + (bif infB p then 1 else 0)) - (bif aduB p then 1 else 0)) t
theorem QjG (s : Bs) : Ret lb Qbj [.str s] (.bool (QfG s)) := by
 by_cases h : s.length ≤ 30
 ·exact QoX lb s (by omega)
 ·refine .top rfl (.all fun n => ?_)
  rw [Qkg]
  have : QfG s = false := by unfold QfG; simp [h]
  rw [this]
  exact stT (decT (by omega)) rfl
theorem QsK (p : Pe) (h : PeOk p) : Ret lb QeT [.agg (peE p)] (.bool (QdD p)) :=
 .top rfl (Evt.imp2 (QjG lb p.la) (QjG lb p.fi) fun n h1 h2 => by
  rw [show top lb n QeT [.agg (peE p)] = _ from QnX lb n p.la p.fi p.ty]
  refine stO _ h1 (stO _ (QaL _) ?_)
  unfold QdD
  cases QfG p.la with
  | true => exact stT rfl (stO _ h2 rfl)
  | false => exact stF rfl rfl)
theorem QsH (p : Pe) (h : PeOk p) : Ret lb QcZ [.agg (peE p)] (.bool (QeK p)) :=
 .top rfl ((QeP lb p.ty 3 3 (by have := h.2.2; omega)).mono fun n h1 => by
  rw [show top lb n QcZ [.agg (peE p)] = _ from Qob lb n p.la p.fi p.ty]
  exact stO _ h1 rfl)
theorem QmZ (p : Pe) : Ret lb Qdm [.agg (peE p)] (.bool (infB p)) :=
 .top rfl (.all fun n => by
  rw [show top lb n Qdm [.agg (peE p)] = _ from Qnx lb n p.la p.fi p.ty]
  rfl)
theorem Qsr (p : Pe) : Ret lb QdC [.agg (peE p)] (.bool (aduB p)) :=
 .top rfl ((QmZ lb p).mono fun n h => by
  rw [show top lb n QdC [.agg (peE p)] = _ from Qoi lb n p.la p.fi p.ty]
  refine stO _ h (stO _ (QaL _) ?_)
  unfold aduB
  cases infB p with
  | true => exact stF rfl rfl
  | false => exact stT rfl rfl)
theorem Qqk (bn : Bool) (l : List Pe) (hl : l.length ≤ 1000000) : ∀ (t u : List Pe) (m : Int), u ++ t = l → -(u.length : Int) ≤ m → m ≤ (u.length : Int) → Evt fun n => ∀ k, t.length < k → Qcd lb n k bn (l.map peE) m (u.length : Int) = some (.bool (decide (QbT m t > 0)))
 | [], u, m, h, _, _ => .all fun n k hk => by
  obtain ⟨k, rfl⟩ : ∃ j, k = j + 1 := ⟨k - 1, by simp at hk; omega⟩
  have hu : u = l := by simpa using h
  rw [QfM, hu]
  refine stF (decF (by simp)) ?_
  rw [Qll]; rfl
 | p :: t, u, m, h, m0, m1 => by
  have hul : u.length + (t.length + 1) = l.length := by rw [← h]; simp
  have hw : IntKind.wrap .i64 ((u.length : Int) + 1) = ((u ++ [p]).length : Int) := by rw [QaK (by omega) (by omega)]; simp
  have hat : atL (l.map peE) (u.length : Int) = some (peE p) := Qdk (by rw [List.getElem?_map, ← h]; simp)
  have w1 : IntKind.wrap .i64 (m + 1) = m + 1 := QaK (by omega) (by omega)
  have w2 : IntKind.wrap .i64 (m - 1) = m - 1 := QaK (by omega) (by omega)
  have w3 : IntKind.wrap .i64 (m + 1 - 1) = m := by rw [QaK (by omega) (by omega)]; omega
  have hex : infB p = true → aduB p = false := fun hi => by unfold aduB; rw [hi]; rfl
  refine Evt.imp2 (Evt.imp2 (QmZ lb p) (Qsr lb p) fun n a b => (⟨a, b⟩ : _ ∧ _)) (Qqk bn l hl t (u ++ [p]) ((m + (bif infB p then 1 else 0)) - (bif aduB p then 1 else 0)) (by rw [← h]; simp)
   (by simp; cases infB p <;> cases aduB p <;> simp <;> omega) (by simp; cases infB p <;> cases aduB p <;> simp <;> omega)) fun n ⟨h1, h2⟩ hi k hk => ?_
  obtain ⟨k, rfl⟩ : ∃ j, k = j + 1 := ⟨k - 1, by simp at hk; omega⟩
  have hi := hi k (by simp at hk; omega)
  rw [QfM]
  unfold QbT
  refine stT (decT (by simp; omega)) (stO _ hat (stC rfl (stO _ rfl (stO _ rfl (stO _ rfl (stO _ h1 (stO _ (QaL _) ?_)))))))
  cases hI : infB p with
  | true =>
   have hA := hex hI
   rw [hA] at h2
   rw [hI, hA] at hi
   rw [hA]
   refine stT rfl (stO _ h2 (stO _ (QaL _) (stF rfl ?_)))
   rw [w1, hw]
   simpa using hi
  | false =>
   refine stF rfl (stO _ h2 (stO _ (QaL _) ?_))
   cases hA : aduB p with
   | true =>
    rw [hI, hA] at hi
    refine stT rfl ?_
    rw [w2, hw]
    simpa using hi
   | false =>
    rw [hI, hA] at hi
    refine stF rfl ?_
    rw [hw]
    simpa using hi
theorem QoL (bn : Bool) (l : List Pe) (hl : l.length ≤ 1000000) : Ret lb Qas [.list bn (l.map peE)] (.bool (decide (QbT 0 l > 0))) :=
 .top rfl ((Evt.diag (Qqk lb bn l hl l [] 0 rfl (by simp) (by simp))).mono fun n h => by rw [Qoj]; exact h)
end Go.Proofs
set_option linter.unusedSimpArgs false
set_option linter.unusedVariables false
namespace Go.Proofs
open Go.Am
variable (lb : Nat)
abbrev Fau := Int × Bs
def fauE (f : Fau) : List CV := [.int .i64 f.1, .str f.2]
def QaG (l : List Fau) : CV := .list l.isEmpty (l.map fauE)
def Qap (b : Bool) (e : Int) (at' : Bs) : List Fau := bif b then [(e, at')] else []
def QaH : Bs := [112, 97, 114, 116, 121]
theorem QdJ (l : List Fau) (e : Int) (s : Bs) : l.map fauE ++ [[CV.int .i64 e, CV.str s]] = (l ++ [(e, s)]).map fauE := by simp [fauE]
theorem QdO (l : List Fau) (x : Fau) : (l.isEmpty && false) = (l ++ [x]).isEmpty := by simp
theorem QeH {l : List Fau} (h : l.length ≤ 1000000) : room ((l.map fauE).length + 1) 24 = true := Qev (by simp; omega)
theorem acc (c : Bool) (l : List Fau) (e : Int) (s : Bs) (hl : l.length ≤ 999999) (J : Bool → List (List CV) → Option CV) :
  (bif c then chkO (room ((l.map fauE).length + 1) 24) (J (l.isEmpty && false) (l.map fauE ++ [[CV.int .i64 e, CV.str s]])) else J l.isEmpty (l.map fauE)) = J (l ++ Qap c e s).isEmpty ((l ++ Qap c e s).map fauE) := by
 cases c with
 | true =>
  refine stC (QeH (by omega)) ?_
  rw [QdJ, QdO l (e, s)]; rfl
 | false =>
  show _ = J (l ++ []).isEmpty ((l ++ []).map fauE)
  rw [List.append_nil]; rfl
theorem QaR (c : Bool) (e : Int) (s : Bs) : (Qap c e s).length ≤ 1 := by cases c <;> simp [Qap]
def idxF {α : Type} (f : Nat → α → List Fau) : Nat → List α → List Fau
 | _, [] => []
 | i, x :: t => f i x ++ idxF f (i + 1) t
theorem QdY {α : Type} (f : Nat → α → List Fau) (x : α) : ∀ (l : List α) (i : Nat), idxF f i (l ++ [x]) = idxF f i l ++ f (i + l.length) x
 | [], i => by simp [idxF]
 | y :: l, i => by
  simp only [List.cons_append, idxF, QdY f x l (i + 1), List.append_assoc, List.length_cons]
  rw [show i + 1 + l.length = i + (l.length + 1) by omega]
theorem Qde {α : Type} {f : Nat → α → List Fau} {c : Nat} (h : ∀ i x, (f i x).length ≤ c) : ∀ (l : List α) (i : Nat), (idxF f i l).length ≤ c * l.length
 | [], i => by simp [idxF]
 | y :: l, i => by
  have := Qde h l (i + 1)
  have := h i y
  simp only [idxF, List.length_append, List.length_cons, Nat.mul_add]
  omega
theorem Qfd {n : Nat} {bn : Bool} {ps : List (List CV)} {a : Bool} (h : C lb n Qas [.list bn ps] = some (.bool a)) (l : List Fau) (hl : l.length ≤ 1000000) :
  (optO (C lb n Qas [.list bn ps]) fun r => optO (CV.asB r) fun b => bif b then (chkO (room ((l.map fauE).length + 1) 24) (some (.list (l.isEmpty && false) (l.map fauE ++ [[CV.int .i64 25, CV.str [112, 97, 114, 116, 121]]])))) else (some (.list l.isEmpty (l.map fauE)))) = some (QaG (l ++ Qap a 25 QaH)) := by
 refine stO _ h (stO _ (QaL _) ?_)
 cases a with
 | true =>
  refine stT rfl (stC (QeH hl) ?_)
  rw [QdJ, QdO l (25, [112, 97, 114, 116, 121])]; rfl
 | false =>
  refine stF rfl ?_
  show _ = some (QaG (l ++ []))
  rw [List.append_nil]; rfl
def QaI (n g : Int) : Bool := decide (n + g = 0) || ((g == 0 && decide (n > 9)) || decide (n + g > 99))
theorem Qtb (bn : Bool) (ps : List Pe) (grp : Int) (l : List Fau) (g : Int) (hps : ps.length ≤ 1000000) (hl : l.length ≤ 999999) (g0 : 0 ≤ g) (g1 : g ≤ 99) :
  Evt fun n => QfS lb n bn (ps.map peE) grp l.isEmpty (l.map fauE) g = some (QaG ((l ++ Qap (QaI ps.length g) 4 QaH) ++ Qap (decide (QbT 0 ps > 0)) 25 QaH)) :=
 (QoL lb bn ps hps).mono fun n h => by
  have hlen : (((ps.map peE).length : Nat) : Int) = (ps.length : Int) := by simp
  have hw : IntKind.wrap .i64 ((ps.length : Int) + g) = (ps.length : Int) + g := QaK (by omega) (by omega)
  have bad : (chkO (room ((l.map fauE).length + 1) 24) (optO (C lb n Qas [.list bn (ps.map peE)]) fun r => optO (CV.asB r) fun b => bif b then (chkO (room ((l.map fauE ++ [[CV.int .i64 4, CV.str [112, 97, 114, 116, 121]]]).length + 1) 24) (some (.list ((l.isEmpty && false) && false) ((l.map fauE ++ [[CV.int .i64 4, CV.str [112, 97, 114, 116, 121]]]) ++ [[CV.int .i64 25, CV.str [112, 97, 114, 116, 121]]])))) else (some (.list (l.isEmpty && false) (l.map fauE ++ [[CV.int .i64 4, CV.str [112, 97, 114, 116, 121]]]))))) = some (QaG ((l ++ Qap true 4 QaH) ++ Qap (decide (QbT 0 ps > 0)) 25 QaH)) := by
   refine stC (QeH (by omega)) ?_
   rw [QdJ, QdO l (4, [112, 97, 114, 116, 121])]
   exact Qfd lb h (l ++ [(4, QaH)]) (by simp; omega)
  have good : ∀ {r}, r = some (QaG (l ++ Qap (decide (QbT 0 ps > 0)) 25 QaH)) → r = some (QaG ((l ++ Qap false 4 QaH) ++ Qap (decide (QbT 0 ps > 0)) 25 QaH)) := fun e => by
   rw [e]; show _ = some (QaG ((l ++ []) ++ _)); rw [List.append_nil]
  rw [Qlj, hlen, hw]
  by_cases h0 : (ps.length : Int) + g = 0
  ·rw [show QaI ps.length g = true by simp [QaI, h0]]
   exact stT (beqT h0) bad
  refine stF (beqF h0) ?_
  by_cases hg : g = 0
  ·refine stT (beqT hg) ?_
   by_cases h9 : (ps.length : Int) > 9
   ·rw [show QaI ps.length g = true by simp [QaI, hg]; omega]
    exact stT (decT h9) bad
   refine stF (decF h9) ?_
   by_cases h99 : (ps.length : Int) + g > 99
   ·omega
   rw [show QaI ps.length g = false by simp [QaI]; omega]
   exact stF (decF h99) (good (Qfd lb h l (by omega)))
  ·refine stF (beqF hg) ?_
   by_cases h99 : (ps.length : Int) + g > 99
   ·rw [show QaI ps.length g = true by simp [QaI]; omega]
    exact stT (decT h99) bad
   rw [show QaI ps.length g = false by simp [QaI]; omega]
   exact stF (decF h99) (good (Qfd lb h l (by omega)))
theorem Qqx (bn : Bool) (ps : List Pe) (grp : Int) (l : List Fau) (g : Int) (hps : ps.length ≤ 1000000) (hl : l.length ≤ 999999) (g0 : 0 ≤ g) (g1 : g ≤ 99) :
  Evt fun n => Qes lb n bn (ps.map peE) grp l.isEmpty (l.map fauE) g = some (QaG ((l ++ Qap (QaI ps.length g) 4 QaH) ++ Qap (decide (QbT 0 ps > 0)) 25 QaH)) :=
 (QoL lb bn ps hps).mono fun n h => by
  have hlen : (((ps.map peE).length : Nat) : Int) = (ps.length : Int) := by simp
  have hw : IntKind.wrap .i64 ((ps.length : Int) + g) = (ps.length : Int) + g := QaK (by omega) (by omega)
  have bad : (chkO (room ((l.map fauE).length + 1) 24) (optO (C lb n Qas [.list bn (ps.map peE)]) fun r => optO (CV.asB r) fun b => bif b then (chkO (room ((l.map fauE ++ [[CV.int .i64 4, CV.str [112, 97, 114, 116, 121]]]).length + 1) 24) (some (.list ((l.isEmpty && false) && false) ((l.map fauE ++ [[CV.int .i64 4, CV.str [112, 97, 114, 116, 121]]]) ++ [[CV.int .i64 25, CV.str [112, 97, 114, 116, 121]]])))) else (some (.list (l.isEmpty && false) (l.map fauE ++ [[CV.int .i64 4, CV.str [112, 97, 114, 116, 121]]]))))) = some (QaG ((l ++ Qap true 4 QaH) ++ Qap (decide (QbT 0 ps > 0)) 25 QaH)) := by
   refine stC (QeH (by omega)) ?_
   rw [QdJ, QdO l (4, [112, 97, 114, 116, 121])]
   exact Qfd lb h (l ++ [(4, QaH)]) (by simp; omega)
  have good : ∀ {r}, r = some (QaG (l ++ Qap (decide (QbT 0 ps > 0)) 25 QaH)) → r = some (QaG ((l ++ Qap false 4 QaH) ++ Qap (decide (QbT 0 ps > 0)) 25 QaH)) := fun e => by
   rw [e]; show _ = some (QaG ((l ++ []) ++ _)); rw [List.append_nil]
  rw [Qlh, hlen, hw]
  by_cases h0 : (ps.length : Int) + g = 0
  ·rw [show QaI ps.length g = true by simp [QaI, h0]]
   exact stT (beqT h0) bad
  refine stF (beqF h0) ?_
  by_cases hg : g = 0
  ·refine stT (beqT hg) ?_
   by_cases h9 : (ps.length : Int) > 9
   ·rw [show QaI ps.length g = true by simp [QaI, hg]; omega]
    exact stT (decT h9) bad
   refine stF (decF h9) ?_
   by_cases h99 : (ps.length : Int) + g > 99
   ·omega
   rw [show QaI ps.length g = false by simp [QaI]; omega]
   exact stF (decF h99) (good (Qfd lb h l (by omega)))
  ·refine stF (beqF hg) ?_
   by_cases h99 : (ps.length : Int) + g > 99
   ·rw [show QaI ps.length g = true by simp [QaI]; omega]
    exact stT (decT h99) bad
   rw [show QaI ps.length g = false by simp [QaI]; omega]
   exact stF (decF h99) (good (Qfd lb h l (by omega)))
def Qcu (g : Int) : Bool := decide (g < 0) || decide (g > 99)
def QfX (ps : List Pe) (g : Int) : List Fau := Qap (Qcu g) 2 QaH ++ (Qap (QaI ps.length (bif Qcu g then 0 else g)) 4 QaH ++ Qap (decide (QbT 0 ps > 0)) 25 QaH)
theorem Qs0 (bn : Bool) (ps : List Pe) (grp : Int) (l : List Fau) (hps : ps.length ≤ 1000000) (hl : l.length ≤ 999998) :
  Evt fun n => QfY lb n bn (ps.map peE) grp l.isEmpty (l.map fauE) = some (QaG (l ++ QfX ps grp)) := by
 unfold QfX
 by_cases h0 : grp < 0
 ·have hb : Qcu grp = true := by simp [Qcu, h0]
  refine (Qtb lb bn ps grp (l ++ [(2, QaH)]) 0 hps (by simp; omega) (by omega) (by omega)).mono fun n h => ?_
  rw [Qey]
  refine stT (decT h0) (stC (QeH (by omega)) ?_)
  rw [Qln, QdJ, QdO l (2, [112, 97, 114, 116, 121]), hb]
  simpa [Qap, QaH] using h
 by_cases h1 : grp > 99
 ·have hb : Qcu grp = true := by simp [Qcu, h1]
  refine (Qqx lb bn ps grp (l ++ [(2, QaH)]) 0 hps (by simp; omega) (by omega) (by omega)).mono fun n h => ?_
  rw [Qey]
  refine stF (decF h0) (stT (decT h1) (stC (QeH (by omega)) ?_))
  rw [QgU, QdJ, QdO l (2, [112, 97, 114, 116, 121]), hb]
  refine stT (decT h1) ?_
  simpa [Qap, QaH] using h
 ·have hb : Qcu grp = false := by simp [Qcu]; omega
  refine (Qqx lb bn ps grp l grp hps (by omega) (by omega) (by omega)).mono fun n h => ?_
  rw [Qey]
  refine stF (decF h0) (stF (decF h1) ?_)
  rw [QgU, hb]
  refine stF (decF h1) ?_
  simpa [Qap] using h
def QbD : Bs := [112, 101, 114, 115, 111, 110, 32]
def perF (i : Nat) (p : Pe) : List Fau := Qap (!QdD p) 5 (QbD ++ Lib.itoa (i : Int)) ++ Qap (!QeK p) 8 (QbD ++ Lib.itoa (i : Int))
theorem Qmc (i : Nat) (p : Pe) : (perF i p).length ≤ 2 := by
 unfold perF
 have := QaR (!QdD p) 5 (QbD ++ Lib.itoa (i : Int))
 have := QaR (!QeK p) 8 (QbD ++ Lib.itoa (i : Int))
 rw [List.length_append]; omega
def Qax (ps : List Pe) (g : Int) : List Fau := idxF perF 0 ps ++ QfX ps g
theorem QmB (bn : Bool) (ps : List Pe) (grp : Int) (hps : ps.length ≤ 100000) (hok : ∀ p ∈ ps, PeOk p) : Ret lb QaB [.list bn (ps.map peE), .int .i64 grp] (QaG (Qax ps grp)) := by
 have hlen : ∀ l : List Pe, (idxF perF 0 l).length ≤ 2 * l.length := fun l => Qde Qmc l 0
 refine .top rfl ((Evt.diag (QdT (enc := peE) (l := ps) (P := fun p t n k => party_Check_L1 lb n k bn (ps.map peE) grp (p.length : Int) (idxF perF 0 p).isEmpty ((idxF perF 0 p).map fauE) = some (QaG (Qax ps grp))) (by omega)
  ((Qs0 lb bn ps grp (idxF perF 0 ps) (by omega) (by have := hlen ps; omega)).mono fun n h k => by
    rw [QfO]
    exact stF (decF (by simp)) h)
  (fun p x t h h1 h2 h3 ih => by
   have hpl : p.length + (t.length + 1) = ps.length := by rw [← h]; simp
   have hx : PeOk x := hok x (by rw [← h]; simp)
   have hil := Qd2 (z := (p.length : Int)) (by omega) (by omega)
   have hF := hlen p
   refine Evt.imp2 (Evt.imp2 (QsK lb x hx) (Evt.imp2 (QsH lb x hx) (Qe5 lb (p.length : Int) (by omega) (by omega)) fun n a b => And.intro a b) fun n a b => And.intro a b) ih fun n ⟨c1, c2, c3⟩ hi k hk => ?_
   have hi := hi k hk
   rw [QfO]
   refine stT (decT h1) (stO _ h2 (stC rfl (stO _ rfl (stO _ rfl (stO _ rfl (stO _ c3 (stO _ rfl (stC (decT (by simp; omega)) (stO _ c1 (stO _ (QaL _) ?_))))))))))
   rw [h3]
   rw [QdY, Nat.zero_add] at hi
   rw [show perF p.length x = Qap (!QdD x) 5 (QbD ++ Lib.itoa (p.length : Int)) ++ Qap (!QeK x) 8 (QbD ++ Lib.itoa (p.length : Int)) from rfl] at hi
   rw [← List.append_assoc] at hi
   have step : ∀ l : List Fau, l.length ≤ 999999 → (optO (C lb n QcZ [.agg [.str x.la, .str x.fi, .str x.ty]]) fun r => optO (CV.asB r) fun b => bif (!b) then chkO (room ((l.map fauE).length + 1) 24) (party_Check_L1 lb n k bn (ps.map peE) grp ((p ++ [x]).length : Int) (l.isEmpty && false) (l.map fauE ++ [[CV.int .i64 8, CV.str (QbD ++ Lib.itoa (p.length : Int))]])) else party_Check_L1 lb n k bn (ps.map peE) grp ((p ++ [x]).length : Int) l.isEmpty (l.map fauE)) = party_Check_L1 lb n k bn (ps.map peE) grp ((p ++ [x]).length : Int) (l ++ Qap (!QeK x) 8 (QbD ++ Lib.itoa (p.length : Int))).isEmpty ((l ++ Qap (!QeK x) 8 (QbD ++ Lib.itoa (p.length : Int))).map fauE) := fun l hl =>
    stO _ c2 (stO _ (QaL _) (acc (!QeK x) l 8 (QbD ++ Lib.itoa (p.length : Int)) hl (fun b l => party_Check_L1 lb n k bn (ps.map peE) grp ((p ++ [x]).length : Int) b l)))
   cases hn : QdD x with
   | true =>
    refine stF rfl ((step _ (by omega)).trans ?_)
    rw [hn] at hi
    have e : idxF perF 0 p ++ Qap (!true) 5 (QbD ++ Lib.itoa (p.length : Int)) = idxF perF 0 p := List.append_nil _
    rw [e] at hi
    exact hi
   | false =>
    rw [hn] at hi
    refine stT rfl (stC (QeH (by omega)) ?_)
    rw [QdJ, QdO (idxF perF 0 p) (5, [112, 101, 114, 115, 111, 110, 32] ++ Lib.itoa (p.length : Int))]
    exact (step (idxF perF 0 p ++ [(5, QbD ++ Lib.itoa (p.length : Int))]) (by simp; omega)).trans hi) ps [] rfl)).mono fun n h => by rw [QnO]; exact h)
end Go.Proofs
set_option linter.unusedSimpArgs false
set_option linter.unusedVariables false
namespace Go.Proofs
open Go.Am
variable (lb : Nat)
structure Sv where
 cd : Bs
 pe : Int
 sg : Int
def svE (x : Sv) : List CV := [.str x.cd, .int .i64 x.pe, .int .i64 x.sg]
def Qgd : Bs := [108, 111, 99, 97, 116, 111, 114]
def QdF : Bs := [108, 105, 109, 105, 116]
def Qbr : Bs := [115, 101, 103, 115]
def segS : Bs := [115, 101, 103, 32]
def Qbh : Bs := [115, 101, 114, 118, 105, 99, 101, 32]
def QeO (x : Int) : Bool := decide (x < 0) || decide (x ≥ 52596000)
def Qgs (np ns : Int) (x : Sv) : Bool := decide (x.pe < 0) || (decide (x.pe ≥ np) || (decide (x.sg < 0) || decide (x.sg ≥ ns)))
def svF (np ns : Int) (i : Nat) (x : Sv) : List Fau := Qap (!Qby x.cd 4 4) 5 (Qbh ++ Lib.itoa (i : Int)) ++ Qap (Qgs np ns x) 7 (Qbh ++ Lib.itoa (i : Int))
def segF (i : Nat) (s : Sg) : List Fau := (Qcn s).map fun e => (e, segS ++ Lib.itoa (i : Int))
def Qk4 (loc : Bs) (ps : List Pe) (g : Int) (l : List Sg) (svs : List Sv) (lim : Int) : List Fau :=
 (((((Qap (!Qby loc 6 6) 5 Qgd ++ Qap (QeO lim) 13 QdF) ++ Qax ps g) ++ Qap (decide ((l.length : Int) > 24)) 4 Qbr) ++ Qap (marE (mars l) != 0) (marE (mars l)) Qbr) ++ idxF segF 0 l) ++ idxF (svF ps.length l.length) 0 svs
theorem accT (l : List Fau) (e : Int) (s : Bs) (hl : l.length ≤ 999999) (J : Bool → List (List CV) → Option CV) :
  chkO (room ((l.map fauE).length + 1) 24) (J (l.isEmpty && false) (l.map fauE ++ [[CV.int .i64 e, CV.str s]])) = J (l ++ Qap true e s).isEmpty ((l ++ Qap true e s).map fauE) := by
 refine stC (QeH (by omega)) ?_
 rw [QdJ, QdO l (e, s)]; rfl
theorem accF (l : List Fau) (e : Int) (s : Bs) (J : Bool → List (List CV) → Option CV) : J l.isEmpty (l.map fauE) = J (l ++ Qap false e s).isEmpty ((l ++ Qap false e s).map fauE) := by
 show _ = J (l ++ []).isEmpty ((l ++ []).map fauE)
 rw [List.append_nil]
theorem QnM (np ns : Int) (i : Nat) (x : Sv) : (svF np ns i x).length ≤ 2 := by
 unfold svF
 have := QaR (!Qby x.cd 4 4) 5 (Qbh ++ Lib.itoa (i : Int))
 have := QaR (Qgs np ns x) 7 (Qbh ++ Lib.itoa (i : Int))
 rw [List.length_append]; omega
theorem Qh7 (b : Bool) (e : Int) : (Qbb b e).length ≤ 1 := by cases b <;> simp [Qbb]
theorem Qfi (s : Sg) : (Qcn s).length ≤ 4 := by
 unfold Qcn
 have := Qh7 (Qcb s) 5
 have := Qh7 (Qc1 s) 13
 have := Qh7 (Qcw s.cls) 16
 have := Qh7 (stOk s.st) 10
 simp only [List.length_append]; omega
theorem QlU (i : Nat) (s : Sg) : (segF i s).length ≤ 4 := by unfold segF; rw [List.length_map]; exact Qfi s
theorem QuO (n wV : Nat) (aloc1 : List UInt8) (ja : Bool) (aper3 : List (List CV)) (je : Int) (jb : Bool) (aseg6 : List (List CV)) (jd : Bool) (aser9 : List (List CV)) (jc : Int) (jl : CV) (jL : Int) (s210 : List UInt8) (jk : Bool) (l17 : List (List CV)) (jg : CV) (jj : Bool × List (List CV)) (jn : CV) (c205 : List CV) (wH yl yj yu : CV) (x : Sv) (h7 : yl = .int .i64 x.pe) (h8 : yj = .int .i64 x.sg) (G : List Fau) (hG : G.length ≤ 999999) :
  Qcv lb n wV aloc1 ja aper3 je jb aseg6 jd aser9 jc jl jL s210 jk l17 jg jj jn c205 wH yl yj yu G.isEmpty (G.map fauE) = QaX lb n wV aloc1 ja aper3 je jb aseg6 jd aser9 jc jl jk l17 jg jj jn (IntKind.wrap .i64 (jL + 1)) (G ++ Qap (Qgs aper3.length aseg6.length x) 7 (Qbh ++ s210)).isEmpty ((G ++ Qap (Qgs aper3.length aseg6.length x) 7 (Qbh ++ s210)).map fauE) := by
 subst h7; subst h8
 have hT := accT G 7 (Qbh ++ s210) hG (fun b l => QaX lb n wV aloc1 ja aper3 je jb aseg6 jd aser9 jc jl jk l17 jg jj jn (IntKind.wrap .i64 (jL + 1)) b l)
 have hF := accF G 7 (Qbh ++ s210) (fun b l => QaX lb n wV aloc1 ja aper3 je jb aseg6 jd aser9 jc jl jk l17 jg jj jn (IntKind.wrap .i64 (jL + 1)) b l)
 rw [Qjh]
 unfold Qgs
 refine stO _ (Qa2 ..) ?_
 cases decide (x.pe < 0) with
 | true => exact stT rfl hT
 | false =>
  refine stF rfl (stO _ (Qa2 ..) ?_)
  cases decide (x.pe ≥ (aper3.length : Int)) with
  | true => exact stT rfl hT
  | false =>
   refine stF rfl (stO _ (Qa2 ..) ?_)
   cases decide (x.sg < 0) with
   | true => exact stT rfl hT
   | false =>
    refine stF rfl (stO _ (Qa2 ..) ?_)
    cases decide (x.sg ≥ (aseg6.length : Int)) with
    | true => exact stT rfl hT
    | false => exact stF rfl hF
theorem Qvt (n : Nat) (aloc1 : List UInt8) (ja : Bool) (aper3 : List (List CV)) (je : Int) (jb : Bool) (aseg6 : List (List CV)) (jd : Bool) (aser9 : List (List CV)) (jc : Int) (jl : CV) (jk : Bool) (l17 : List (List CV)) (jg : CV) (jj : Bool × List (List CV)) (jn : CV) (svs : List Sv) (h9 : aser9 = svs.map svE) (hl : svs.length ≤ 100000) (hok : ∀ x ∈ svs, x.cd.length ≤ 281474976710656) (F : List Fau) (hF : F.length ≤ 500000) :
  Evt fun n => Qe3 lb n aloc1 ja aper3 je jb aseg6 jd aser9 jc jl jk l17 jg jj jn F.isEmpty (F.map fauE) = some (QaG (F ++ idxF (svF aper3.length aseg6.length) 0 svs)) := by
 subst h9
 have hlen : ∀ l : List Sv, (idxF (svF aper3.length aseg6.length) 0 l).length ≤ 2 * l.length := fun l => Qde (QnM _ _) l 0
 refine (Evt.diag (QdT (enc := svE) (l := svs) (P := fun p t n k => QaX lb n k aloc1 ja aper3 je jb aseg6 jd (svs.map svE) jc jl jk l17 jg jj jn (p.length : Int) (F ++ idxF (svF aper3.length aseg6.length) 0 p).isEmpty ((F ++ idxF (svF aper3.length aseg6.length) 0 p).map fauE) = some (QaG (F ++ idxF (svF aper3.length aseg6.length) 0 svs))) (by omega)
  (.all fun n k => by
   rw [Qfa]
   refine stF (decF (by simp)) ?_
   rw [Qja]
   rfl)
  (fun p x t h h1 h2 h3 ih => by
   have hpl : p.length + (t.length + 1) = svs.length := by rw [← h]; simp
   have hx := hok x (by rw [← h]; simp)
   have hil := Qd2 (z := (p.length : Int)) (by omega) (by omega)
   have hP := hlen p
   refine Evt.imp2 (Evt.imp2 (QeP lb x.cd 4 4 hx) (Qe5 lb (p.length : Int) (by omega) (by omega)) fun n a b => And.intro a b) ih fun n ⟨c1, c2⟩ hi k hk => ?_
   have hi := hi k hk
   rw [Qfa]
   refine stT (decT h1) (stO _ h2 (stC rfl (stO _ rfl (stO _ rfl (stO _ rfl (stO _ c2 (stO _ rfl (stC (decT (by simp; omega)) (stO _ c1 (stO _ (QaL _) ?_))))))))))
   refine (acc (!Qby x.cd 4 4) (F ++ idxF (svF aper3.length aseg6.length) 0 p) 5 (Qbh ++ Lib.itoa (p.length : Int)) (by simp; omega) (fun b l => Qcv lb n k aloc1 ja aper3 je jb aseg6 jd (svs.map svE) jc jl (p.length : Int) (Lib.itoa (p.length : Int)) jk l17 jg jj jn (svE x) (.str x.cd) (.int .i64 x.pe) (.int .i64 x.sg) (.str (Lib.itoa (p.length : Int))) b l)).trans ?_
   refine (QuO (x := x) (h7 := rfl) (h8 := rfl) (hG := by
    have := QaR (!Qby x.cd 4 4) 5 (Qbh ++ Lib.itoa (p.length : Int))
    rw [List.length_append, List.length_append]; omega) ..).trans ?_
   rw [h3]
   rw [QdY, Nat.zero_add] at hi
   rw [show svF aper3.length aseg6.length p.length x = Qap (!Qby x.cd 4 4) 5 (Qbh ++ Lib.itoa (p.length : Int)) ++ Qap (Qgs aper3.length aseg6.length x) 7 (Qbh ++ Lib.itoa (p.length : Int)) from rfl] at hi
   simp only [List.append_assoc] at hi ⊢
   exact hi) svs [] rfl)).mono fun n h => by
   rw [Qj0]
   have e : F ++ idxF (svF aper3.length aseg6.length) 0 ([] : List Sv) = F := List.append_nil F
   rw [e] at h
   exact h
theorem Qtz (n w7 : Nat) (aloc1 : List UInt8) (ja : Bool) (aper3 : List (List CV)) (je : Int) (jb : Bool) (aseg6 : List (List CV)) (jd : Bool) (aser9 : List (List CV)) (jc : Int) (jl : CV) (wG : Int) (jk : Bool) (l17 : List (List CV)) (jg : CV) (jj : Bool × List (List CV)) (jn : CV) (c95 : List CV) (jV jT jP jW jq jt wA jr js ju yc : CV) (yn : Bool × List (List CV)) (m : Nat) (h59 : wG = (m : Int)) (hm : m ≤ 1000000) (er : List Int) (hr : yc = errV er) (hp : yn = (er.isEmpty, er.map icv)) (her : er.length ≤ 10) (F : List Fau) (hF : F.length ≤ 900000) (hdec : C lb n QcD [.int .i64 wG] = some (.str (Lib.itoa (m : Int)))) : ∀ (t p : List Int), p ++ t = er → ∀ k, t.length < k →
  QcN lb n k w7 aloc1 ja aper3 je jb aseg6 jd aser9 jc jl wG jk l17 jg jj jn c95 jV jT jP jW jq jt wA jr js ju yc yn (p.length : Int) (F ++ p.map fun e => (e, segS ++ Lib.itoa (m : Int))).isEmpty ((F ++ p.map fun e => (e, segS ++ Lib.itoa (m : Int))).map fauE) = QcM lb n w7 aloc1 ja aper3 je jb aseg6 jd aser9 jc jl jk l17 jg jj jn (IntKind.wrap .i64 (wG + 1)) (F ++ er.map fun e => (e, segS ++ Lib.itoa (m : Int))).isEmpty ((F ++ er.map fun e => (e, segS ++ Lib.itoa (m : Int))).map fauE)
 | [], p, h, k, hk => by
  obtain ⟨k, rfl⟩ : ∃ j, k = j + 1 := ⟨k - 1, by simp at hk; omega⟩
  have hpe : p = er := by simpa using h
  subst hpe; subst hp
  rw [Qfb]
  refine stF (decF (by simp)) ?_
  rw [QjW]
 | e :: t, p, h, k, hk => by
  obtain ⟨k, rfl⟩ : ∃ j, k = j + 1 := ⟨k - 1, by simp at hk; omega⟩
  have hpl : p.length + (t.length + 1) = er.length := by rw [← h]; simp
  have hil := Qd2 (z := (m : Int)) (by omega) (by omega)
  have hw : IntKind.wrap .i64 ((p.length : Int) + 1) = ((p ++ [e]).length : Int) := by rw [QaK (by omega) (by omega)]; simp
  have hat : atL (er.map icv) (p.length : Int) = some (icv e) := Qdk (by rw [List.getElem?_map, ← h]; simp)
  have ih := Qtz n w7 aloc1 ja aper3 je jb aseg6 jd aser9 jc jl wG jk l17 jg jj jn c95 jV jT jP jW jq jt wA jr js ju yc yn m h59 hm er hr hp her F hF hdec t (p ++ [e]) (by rw [← h]; simp) k (by simp at hk; omega)
  have hFl : (F ++ p.map fun e => (e, segS ++ Lib.itoa (m : Int))).length ≤ 999999 := by rw [List.length_append, List.length_map]; omega
  subst hr; subst hp
  rw [Qfb]
  refine stT (decT (by simp; omega)) (stO _ rfl (stO _ hat (stC rfl (stO _ rfl (stO _ hdec (stO _ rfl (stC (decT (by simp; omega)) (stC rfl ?_))))))))
  refine (accT (F ++ p.map fun e => (e, segS ++ Lib.itoa (m : Int))) e (segS ++ Lib.itoa (m : Int)) hFl (fun b l => QcN lb n k w7 aloc1 ja aper3 je jb aseg6 jd aser9 jc jl wG jk l17 jg jj jn c95 jV jT jP jW jq jt wA jr js ju (errV er) (er.isEmpty, er.map icv) (IntKind.wrap .i64 ((p.length : Int) + 1)) b l)).trans ?_
  rw [hw]
  rw [List.map_append, ← List.append_assoc] at ih
  exact ih
theorem QvE (n : Nat) (aloc1 : List UInt8) (ja : Bool) (aper3 : List (List CV)) (je : Int) (jb : Bool) (aseg6 : List (List CV)) (jd : Bool) (aser9 : List (List CV)) (jc : Int) (jl : CV) (jk : Bool) (l17 : List (List CV)) (jg : CV) (jj : Bool × List (List CV)) (jn : CV) (segs : List Sg) (h6 : aseg6 = segs.map sgE) (hs : segs.length ≤ 1000) (hsok : ∀ s ∈ segs, s.car.length ≤ 281474976710656 ∧ s.fr.length ≤ 281474976710656 ∧ s.to.length ≤ 281474976710656) (svs : List Sv) (h9 : aser9 = svs.map svE) (hl : svs.length ≤ 100000) (hok : ∀ x ∈ svs, x.cd.length ≤ 281474976710656) (F : List Fau) (hF : F.length ≤ 400000) :
  Evt fun n => QcP lb n aloc1 ja aper3 je jb aseg6 jd aser9 jc jl jk l17 jg jj jn F.isEmpty (F.map fauE) = some (QaG ((F ++ idxF segF 0 segs) ++ idxF (svF aper3.length aseg6.length) 0 svs)) := by
 have hlen : ∀ l : List Sg, (idxF segF 0 l).length ≤ 4 * l.length := fun l => Qde QlU l 0
 have h8 := Qvt lb 0 aloc1 ja aper3 je jb aseg6 jd aser9 jc jl jk l17 jg jj jn svs h9 hl hok (F ++ idxF segF 0 segs) (by have := hlen segs; rw [List.length_append]; omega)
 subst h6
 refine (Evt.diag (QdT (enc := sgE) (l := segs) (P := fun p t n k => QcM lb n k aloc1 ja aper3 je jb (segs.map sgE) jd aser9 jc jl jk l17 jg jj jn (p.length : Int) (F ++ idxF segF 0 p).isEmpty ((F ++ idxF segF 0 p).map fauE) = some (QaG ((F ++ idxF segF 0 segs) ++ idxF (svF aper3.length (segs.map sgE).length) 0 svs))) (by omega)
  (h8.mono fun n h k => by
   rw [Qff]
   exact stF (decF (by simp)) h)
  (fun p x t h h1 h2 h3 ih => by
   have hpl : p.length + (t.length + 1) = segs.length := by rw [← h]; simp
   have hx := hsok x (by rw [← h]; simp)
   have hP := hlen p
   refine Evt.imp2 (Evt.imp2 (Qud lb x hx.1 hx.2.1 hx.2.2) (Evt.imp2 (Qe5 lb (p.length : Int) (by omega) (by omega)) (Evt.ge 6) fun n a b => And.intro a b) fun n a b => And.intro a b) ih fun n ⟨c1, c2, c3⟩ hi k hk => ?_
   have hi := hi k hk
   rw [Qff]
   refine stT (decT h1) (stO _ h2 (stC rfl (stO _ rfl (stO _ rfl (stO _ rfl (stO _ rfl (stO _ rfl (stO _ rfl (stO _ rfl (stO _ rfl (stO _ rfl (stO _ rfl (stO _ c1 (stO _ rfl ?_))))))))))))))
   have hL := Qtz (lb := lb) (n := n) (w7 := k) (m := p.length) (wG := (p.length : Int)) (h59 := rfl) (hm := by omega) (er := Qcn x) (yc := errV (Qcn x)) (yn := ((Qcn x).isEmpty, (Qcn x).map icv)) (hr := rfl) (hp := rfl) (her := by have := Qfi x; omega) (F := F ++ idxF segF 0 p) (hF := by rw [List.length_append]; omega) (hdec := c2) (aloc1 := aloc1) (ja := ja) (aper3 := aper3) (je := je) (jb := jb) (aseg6 := segs.map sgE) (jd := jd) (aser9 := aser9) (jc := jc) (jl := jl) (jk := jk) (l17 := l17) (jg := jg) (jj := jj) (jn := jn) (c95 := sgE x) (jV := .str x.car) (jT := .int .i64 x.num) (jP := .int .i64 x.day) (jW := .str x.fr) (jq := .str x.to) (jt := .int .i64 x.dep) (wA := .int .i64 x.arr) (jr := .str x.cls) (js := .int .i64 x.st) (ju := .int .i64 x.mar) (Qcn x) [] rfl n (by have := Qfi x; omega)
   rw [List.map_nil, List.append_nil, h3] at hL
   refine Eq.trans hL ?_
   rw [QdY, Nat.zero_add] at hi
   rw [show segF p.length x = (Qcn x).map (fun e => (e, segS ++ Lib.itoa (p.length : Int))) from rfl] at hi
   rw [List.append_assoc]
   exact hi) segs [] rfl)).mono fun n h => by
   rw [QjY]
   have e : F ++ idxF segF 0 ([] : List Sg) = F := List.append_nil F
   rw [e] at h
   exact h
theorem QqM (s : Bs) (hs : s.length ≤ 281474976710656) : Ret lb QeB [.str s] (.bool (Qby s 6 6)) :=
 .top rfl ((QeP lb s 6 6 hs).mono fun n h => by
  rw [Qkd]
  exact stO _ h rfl)
theorem QnP (ps : List Pe) (g : Int) : (Qax ps g).length ≤ 2 * ps.length + 3 := by
 unfold Qax QfX
 have := Qde Qmc ps 0
 have := QaR (Qcu g) 2 QaH
 have := QaR (QaI ps.length (bif Qcu g then 0 else g)) 4 QaH
 have := QaR (decide (QbT 0 ps > 0)) 25 QaH
 simp only [List.length_append]; omega
theorem Qvj (n : Nat) (aloc1 : List UInt8) (ja : Bool) (aper3 : List (List CV)) (je : Int) (jb : Bool) (aseg6 : List (List CV)) (jd : Bool) (aser9 : List (List CV)) (jc : Int) (jk : Bool) (l17 : List (List CV)) (jg : CV) (jj : Bool × List (List CV)) (segs : List Sg) (h6 : aseg6 = segs.map sgE) (hs : segs.length ≤ 1000) (hsok : ∀ s ∈ segs, s.car.length ≤ 281474976710656 ∧ s.fr.length ≤ 281474976710656 ∧ s.to.length ≤ 281474976710656) (svs : List Sv) (h9 : aser9 = svs.map svE) (hl : svs.length ≤ 100000) (hok : ∀ x ∈ svs, x.cd.length ≤ 281474976710656) (F : List Fau) (hF : F.length ≤ 300000) :
  Evt fun n => QbO lb n aloc1 ja aper3 je jb aseg6 jd aser9 jc jk l17 jg jj F.isEmpty (F.map fauE) = some (QaG (((F ++ Qap (marE (mars segs) != 0) (marE (mars segs)) Qbr) ++ idxF segF 0 segs) ++ idxF (svF aper3.length aseg6.length) 0 svs)) := by
 have h4 := QvE lb 0 aloc1 ja aper3 je jb aseg6 jd aser9 jc (.int .i64 (marE (mars segs))) jk l17 jg jj (.list false ((mars segs).map icv)) segs h6 hs hsok svs h9 hl hok (F ++ Qap (marE (mars segs) != 0) (marE (mars segs)) Qbr) (by
  have := QaR (marE (mars segs) != 0) (marE (mars segs)) Qbr
  rw [List.length_append]; omega)
 have hmm : (mars segs).length ≤ 1000 := by simpa [mars] using hs
 subst h6
 refine Evt.imp2 (Evt.imp2 (QoS lb jb segs (by omega)) (QmL lb false (mars segs) (by omega)) fun n a b => And.intro a b) h4 fun n ⟨c1, c2⟩ h => ?_
 rw [QjV]
 refine stO _ c1 (stO _ c2 (stO _ (Qa2 ..) ?_))
 exact (acc (marE (mars segs) != 0) F (marE (mars segs)) Qbr (by omega) (fun b l => QcP lb n aloc1 ja aper3 je jb (segs.map sgE) jd aser9 jc (.int .i64 (marE (mars segs))) jk l17 jg jj (.list false ((mars segs).map icv)) b l)).trans h
theorem Qvr (n : Nat) (aloc1 : List UInt8) (ja : Bool) (aper3 : List (List CV)) (je : Int) (jb : Bool) (aseg6 : List (List CV)) (jd : Bool) (aser9 : List (List CV)) (jc : Int) (ps : List Pe) (h3 : aper3 = ps.map peE) (hps : ps.length ≤ 1000) (hpok : ∀ p ∈ ps, PeOk p) (segs : List Sg) (h6 : aseg6 = segs.map sgE) (hs : segs.length ≤ 1000) (hsok : ∀ s ∈ segs, s.car.length ≤ 281474976710656 ∧ s.fr.length ≤ 281474976710656 ∧ s.to.length ≤ 281474976710656) (svs : List Sv) (h9 : aser9 = svs.map svE) (hl : svs.length ≤ 100000) (hok : ∀ x ∈ svs, x.cd.length ≤ 281474976710656) (F : List Fau) (hF : F.length ≤ 10) :
  Evt fun n => QbM lb n aloc1 ja aper3 je jb aseg6 jd aser9 jc F.isEmpty (F.map fauE) = some (QaG (((((F ++ Qax ps je) ++ Qap (decide ((segs.length : Int) > 24)) 4 Qbr) ++ Qap (marE (mars segs) != 0) (marE (mars segs)) Qbr) ++ idxF segF 0 segs) ++ idxF (svF ps.length segs.length) 0 svs)) := by
 have hpl := QnP ps je
 have h4 := Qvj lb 0 aloc1 ja aper3 je jb aseg6 jd aser9 jc F.isEmpty (F.map fauE) (QaG (Qax ps je)) ((Qax ps je).isEmpty, (Qax ps je).map fauE) segs h6 hs hsok svs h9 hl hok ((F ++ Qax ps je) ++ Qap (decide ((segs.length : Int) > 24)) 4 Qbr) (by
  have := QaR (decide ((segs.length : Int) > 24)) 4 Qbr
  simp only [List.length_append]; omega)
 subst h3; subst h6
 rw [List.length_map, List.length_map] at h4
 refine Evt.imp2 (QmB lb ja ps je (by omega) hpok) h4 fun n c1 h => ?_
 rw [QjT]
 refine stO _ c1 (stO _ rfl (stC (by simp [fauE]) (stC (Qev (by simp; omega)) ?_)))
 have e0 : ∀ a b : List Fau, (a.isEmpty && (b.map fauE).isEmpty) = (a ++ b).isEmpty := fun a b => by cases a <;> cases b <;> rfl
 have e1 := e0 F (Qax ps je)
 have e2 : F.map fauE ++ (Qax ps je).map fauE = (F ++ Qax ps je).map fauE := by simp
 show (bif decide ((((segs.map sgE).length : Nat) : Int) > 24) then chkO (room ((F.map fauE ++ (Qax ps je).map fauE).length + 1) 24) (QbO lb n aloc1 ja (ps.map peE) je jb (segs.map sgE) jd aser9 jc F.isEmpty (F.map fauE) (QaG (Qax ps je)) ((Qax ps je).isEmpty, (Qax ps je).map fauE) ((F.isEmpty && ((Qax ps je).map fauE).isEmpty) && false) ((F.map fauE ++ (Qax ps je).map fauE) ++ [[CV.int .i64 4, CV.str Qbr]])) else QbO lb n aloc1 ja (ps.map peE) je jb (segs.map sgE) jd aser9 jc F.isEmpty (F.map fauE) (QaG (Qax ps je)) ((Qax ps je).isEmpty, (Qax ps je).map fauE) (F.isEmpty && ((Qax ps je).map fauE).isEmpty) (F.map fauE ++ (Qax ps je).map fauE)) = _
 rw [e1, e2, List.length_map]
 exact (acc (decide ((segs.length : Int) > 24)) (F ++ Qax ps je) 4 Qbr (by rw [List.length_append]; omega) (fun b l => QbO lb n aloc1 ja (ps.map peE) je jb (segs.map sgE) jd aser9 jc F.isEmpty (F.map fauE) (QaG (Qax ps je)) ((Qax ps je).isEmpty, (Qax ps je).map fauE) b l)).trans h
theorem Qlr (loc : Bs) (pn : Bool) (ps : List Pe) (g : Int) (bn : Bool) (l : List Sg) (rn : Bool) (svs : List Sv) (lim : Int) (hloc : loc.length ≤ 281474976710656) (hps : ps.length ≤ 1000) (hpok : ∀ p ∈ ps, PeOk p) (hs : l.length ≤ 1000) (hsok : ∀ s ∈ l, s.car.length ≤ 281474976710656 ∧ s.fr.length ≤ 281474976710656 ∧ s.to.length ≤ 281474976710656) (hl : svs.length ≤ 100000) (hok : ∀ x ∈ svs, x.cd.length ≤ 281474976710656) :
  Ret lb Qaa [.agg [.str loc, .list pn (ps.map peE), .int .i64 g, .list bn (l.map sgE), .list rn (svs.map svE), .int .i64 lim]] (QaG (Qk4 loc ps g l svs lim)) := by
 have h1 : ∀ F : List Fau, F.length ≤ 9 → Evt fun n => booking_Check_J1 lb n loc pn (ps.map peE) g bn (l.map sgE) rn (svs.map svE) lim F.isEmpty (F.map fauE) = some (QaG ((((((F ++ Qap (QeO lim) 13 QdF) ++ Qax ps g) ++ Qap (decide ((l.length : Int) > 24)) 4 Qbr) ++ Qap (marE (mars l) != 0) (marE (mars l)) Qbr) ++ idxF segF 0 l) ++ idxF (svF ps.length l.length) 0 svs)) := fun F hF => by
  refine (Qvr lb 0 loc pn (ps.map peE) g bn (l.map sgE) rn (svs.map svE) lim ps rfl hps hpok l rfl hs hsok svs rfl hl hok (F ++ Qap (QeO lim) 13 QdF) (by
   have := QaR (QeO lim) 13 QdF
   rw [List.length_append]; omega)).mono fun n h => ?_
  have hT := accT F 13 QdF (by omega) (fun b m => QbM lb n loc pn (ps.map peE) g bn (l.map sgE) rn (svs.map svE) lim b m)
  have hN := accF F 13 QdF (fun b m => QbM lb n loc pn (ps.map peE) g bn (l.map sgE) rn (svs.map svE) lim b m)
  rw [Qj1]
  unfold QeO at h ⊢
  cases h0 : decide (lim < 0) with
  | true => rw [h0] at h; exact stT rfl (hT.trans h)
  | false =>
   rw [h0] at h
   refine stF rfl ?_
   cases h9 : decide (lim ≥ 52596000) with
   | true => rw [h9] at h; exact stT rfl (hT.trans h)
   | false => rw [h9] at h; exact stF rfl (hN.trans h)
 refine .top rfl (Evt.imp2 (QqM lb loc hloc) (h1 (Qap (!Qby loc 6 6) 5 Qgd) (by have := QaR (!Qby loc 6 6) 5 Qgd; omega)) fun n c h => ?_)
 rw [Qme]
 refine stO _ c (stO _ (QaL _) ?_)
 unfold Qk4
 cases hc : Qby loc 6 6 with
 | true => rw [hc] at h; exact stF rfl h
 | false => rw [hc] at h; exact stT rfl h
end Go.Proofs
