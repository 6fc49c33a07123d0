/- Chapter 35: bookings on plain data: segments, their marriages. Conditions: as each says. -/
import Derived.Test.YtigmcfhmpcajlaaGreatDoorBA
import Derived.Test.YtigmcfhmpcajlaaGreatDoorRA
import Derived.Test.YtigmcfhmpcajlaaGreatDoorGb
import Derived.Test.YtigmcfhmpcajlaaGreatDoorGc
set_option linter.unusedSimpArgs false
set_option linter.unusedVariables false
namespace Go.Proofs
open Go.Am
variable (lb : Nat)
structure Sg where
 car : Bs
 num : Int
 day : Int
 fr : Bs
 to : Bs
 dep : Int
 arr : Int
 cls : Bs
 st : Int
 mar : Int
def sgE (s : Sg) : List CV := [.str s.car, .int .i64 s.num, .int .i64 s.day, .str s.fr, .str s.to, .int .i64 s.dep, .int .i64 s.arr, .str s.cls, .int .i64 s.st, .int .i64 s.mar]
def mars (l : List Sg) : List Int := l.map Sg.mar
theorem Qrk (bn : Bool) (l : List Sg) (hl : l.length ≤ 1000000) : Ret lb QaP [.list bn (l.map sgE)] (.list false ((mars l).map icv)) :=
 .top rfl ((Evt.diag (Qen (enc := sgE) (l := l) (P := fun p t n k => QcW lb n k bn (l.map sgE) ((mars p).map icv) (p.length : Int) = some (.list false ((mars l).map icv))) (by omega)
  (.all fun n k => by
   rw [Qel]
   refine stF (decF (by simp)) ?_
   rw [QiZ])
  (fun p x t h h1 h2 h3 ih => ih.mono fun n hi k hk => by
   have hpl : p.length + (t.length + 1) = l.length := by rw [← h]; simp
   rw [Qel]
   refine stT (decT h1) (stO _ h2 (stC rfl (stO _ rfl (stO _ rfl (stO _ rfl (stO _ rfl (stO _ rfl (stO _ rfl (stO _ rfl (stO _ rfl (stO _ rfl (stO _ rfl (stC rfl (stC ?_ ?_))))))))))))))
   ·simp [room, mars]; omega
   ·rw [h3]
    have := hi k hk
    simpa [mars, icv] using this) l [] rfl)).mono fun n h => by
   rw [Qlb]
   refine stC ?_ h
   simp; omega)
end Go.Proofs
set_option linter.unusedSimpArgs false
set_option linter.unusedVariables false
namespace Go.Proofs
open Go.Am
variable (lb : Nat)
def stOk (x : Int) : Bool := decide (1 ≤ x ∧ x ≤ 7)
def stWords : Bs := [72, 75, 72, 76, 75, 76, 84, 75, 85, 78, 85, 67, 88, 88]
def Qxd (x : Int) : Bs := (stWords.take (2 * x).toNat).drop (2 * x - 2).toNat
def Qil (x : Int) : CV := bif stOk x then .tup [.str (Qxd x), .int .i64 0] else .tup [.str [], .int .i64 8]
theorem Qo4 (x : Int) : Ret lb QhO [.int .i64 x] (Qil x) :=
 .top rfl (.all fun n => by
  rw [QpP]
  unfold Qil
  by_cases h1 : x < 1
  ·have : stOk x = false := by simp [stOk]; omega
   rw [this]
   exact stT (decT h1) rfl
  ·by_cases h2 : x > 7
   ·have : stOk x = false := by simp [stOk]; omega
    rw [this]
    exact stF (decF h1) (stT (decT h2) rfl)
   ·have : stOk x = true := by simp [stOk]; omega
    have hw : IntKind.wrap .i64 (2 * x) = 2 * x := Qaw (by omega) (by omega)
    have hw2 : IntKind.wrap .i64 (2 * x - 2) = 2 * x - 2 := Qaw (by omega) (by omega)
    rw [this, hw, hw2]
    exact stF (decF h1) (stF (decF h2) (stC (decT (by omega)) (stC (decT (by omega)) rfl))))
def Qct (s : Sg) : Bool := QfM s.car && (QcO s.fr && QcO s.to)
def Qdu (s : Sg) : Bool := decide (0 ≤ s.dep ∧ s.dep < s.arr ∧ s.arr < 52596000)
def Qbj (b : Bool) (e : Int) : List Int := bif b then [] else [e]
def QcE (s : Sg) : List Int := ((Qbj (Qct s) 5 ++ Qbj (Qdu s) 13) ++ Qbj (QcU s.cls) 16) ++ Qbj (stOk s.st) 10
def errV (l : List Int) : CV := .list l.isEmpty (l.map icv)
theorem Qha {l : List Int} (h : l.length ≤ 8) : room ((l.map icv).length + 1) 8 = true := Qb6 (by simp; omega)
theorem Qih (l : List Int) (e : Int) : l.map icv ++ [[CV.int .i64 e]] = (l ++ [e]).map icv := by simp [icv]
theorem Qii (l : List Int) (e : Int) : (l.isEmpty && false) = (l ++ [e]).isEmpty := by simp
theorem QxL (s : Sg) (l : List Int) (hl : l.length ≤ 3) : Evt fun n => QeP lb n s.car s.num s.day s.fr s.to s.dep s.arr s.cls s.st s.mar l.isEmpty (l.map icv) = some (errV (l ++ Qbj (stOk s.st) 10)) :=
 (Qo4 lb s.st).mono fun n h => by
  rw [Qm4]
  refine stO _ h ?_
  unfold Qil
  cases stOk s.st with
  | true =>
   refine stO _ rfl (stO _ rfl (stO _ rfl (stO _ rfl (stO _ rfl (stF rfl ?_)))))
   show _ = some (errV (l ++ []))
   rw [List.append_nil]; rfl
  | false =>
   refine stO _ rfl (stO _ rfl (stO _ rfl (stO _ rfl (stO _ rfl (stT rfl (stC (Qha (by omega)) ?_))))))
   rw [Qih, Qii l 10]; rfl
theorem QxF (s : Sg) (l : List Int) (hl : l.length ≤ 2) : Evt fun n => Qc4 lb n s.car s.num s.day s.fr s.to s.dep s.arr s.cls s.st s.mar l.isEmpty (l.map icv) = some (errV ((l ++ Qbj (QcU s.cls) 16) ++ Qbj (stOk s.st) 10)) := by
 refine Evt.imp2 (Qqk lb s.cls) (QxL lb s (l ++ Qbj (QcU s.cls) 16) (by unfold Qbj; cases QcU s.cls <;> simp <;> omega)) fun n h h3 => ?_
 rw [Qm6]
 refine stO _ h (stO _ (Qau _) ?_)
 cases hc : QcU s.cls with
 | true =>
  rw [hc] at h3
  refine stF rfl ?_
  have e : l ++ Qbj true 16 = l := List.append_nil l
  rw [e] at h3 ⊢
  exact h3
 | false =>
  rw [hc] at h3
  refine stT rfl (stC (Qha (by omega)) ?_)
  rw [Qih, Qii l 16]
  exact h3
theorem QxR (s : Sg) (l : List Int) (hl : l.length ≤ 1) : Evt fun n => Qc5 lb n s.car s.num s.day s.fr s.to s.dep s.arr s.cls s.st s.mar l.isEmpty (l.map icv) = some (errV (((l ++ Qbj (Qdu s) 13) ++ Qbj (QcU s.cls) 16) ++ Qbj (stOk s.st) 10)) := by
 refine (QxF lb s (l ++ Qbj (Qdu s) 13) (by unfold Qbj; cases Qdu s <;> simp <;> omega)).mono fun n h => ?_
 rw [QmZ]
 cases ht : Qdu s with
 | true =>
  rw [ht] at h
  have e : l ++ Qbj true 13 = l := List.append_nil l
  rw [e] at h ⊢
  simp only [Qdu, decide_eq_true_eq] at ht
  exact stF (decF (by omega)) (stF (decF (by omega)) (stF (decF (by omega)) h))
 | false =>
  rw [ht] at h
  simp only [Qdu, decide_eq_false_iff_not] at ht
  rw [Qih, Qii l 13]
  by_cases h1 : s.dep < 0
  ·exact stT (decT h1) (stC (Qha (by omega)) h)
  ·by_cases h2 : s.dep ≥ s.arr
   ·exact stF (decF h1) (stT (decT h2) (stC (Qha (by omega)) h))
   ·exact stF (decF h1) (stF (decF h2) (stT (decT (by omega)) (stC (Qha (by omega)) h)))
theorem Qxh (s : Sg) (h1 : s.car.length ≤ 281474976710656) (h2 : s.fr.length ≤ 281474976710656) (h3 : s.to.length ≤ 281474976710656) : Ret lb Qbe [.agg (sgE s)] (errV (QcE s)) := by
 refine .top rfl (Evt.imp2 (Evt.imp2 (QnU lb s.car h1) (Evt.imp2 (QiM lb s.fr h2) (QiM lb s.to h3) fun n a b => (⟨a, b⟩ : _ ∧ _)) fun n a b => (⟨a, b⟩ : _ ∧ _)) (QxR lb s (Qbj (Qct s) 5) (by unfold Qbj; cases Qct s <;> simp)) fun n ⟨c1, c2, c3⟩ h => ?_)
 rw [show top lb n Qbe [.agg (sgE s)] = _ from QpL lb n s.car s.num s.day s.fr s.to s.dep s.arr s.cls s.st s.mar]
 refine stO _ c1 (stO _ (Qau _) ?_)
 unfold QcE
 cases k1 : QfM s.car with
 | false =>
  have : Qct s = false := by unfold Qct; rw [k1]; rfl
  rw [this] at h ⊢
  exact stT rfl h
 | true =>
  refine stF rfl (stO _ c2 (stO _ (Qau _) ?_))
  cases k2 : QcO s.fr with
  | false =>
   have : Qct s = false := by unfold Qct; rw [k1, k2]; rfl
   rw [this] at h ⊢
   exact stT rfl h
  | true =>
   refine stF rfl (stO _ c3 (stO _ (Qau _) ?_))
   have : Qct s = QcO s.to := by unfold Qct; rw [k1, k2]; rfl
   rw [this] at h ⊢
   cases k3 : QcO s.to with
   | false => rw [k3] at h; exact stT rfl h
   | true => rw [k3] at h; exact stF rfl h
end Go.Proofs
set_option linter.unusedSimpArgs false
set_option linter.unusedVariables false
namespace Go.Proofs
open Go.Am
variable (lb : Nat)
structure Pe where
 la : Bs
 fi : Bs
 ty : Bs
def peE (p : Pe) : List CV := [.str p.la, .str p.fi, .str p.ty]
def PeOk (p : Pe) : Prop := p.la.length ≤ 281474976710656 ∧ p.fi.length ≤ 281474976710656 ∧ p.ty.length ≤ 281474976710656
def infB (p : Pe) : Bool := p.ty == [73, 78, 70]
def aduB (p : Pe) : Bool := !infB p && !(p.ty == [67, 72, 68])
def Qdb (p : Pe) : Bool := Qga p.la && Qga p.fi
def QdM (p : Pe) : Bool := Qa1 p.ty 3 3
def Qbu : Int → List Pe → Int
 | n, [] => n
 | n, p :: t => Qbu ((n + (bif infB p then 1 else 0)) - (bif aduB p then 1 else 0)) t
theorem Qlw (s : Bs) : Ret lb Qbt [.str s] (.bool (Qga s)) := by
 by_cases h : s.length ≤ 30
 ·exact Qrb lb s (by omega)
 ·refine .top rfl (.all fun n => ?_)
  rw [Ql8]
  have : Qga s = false := by unfold Qga; simp [h]
  rw [this]
  exact stT (decT (by omega)) rfl
theorem QuN (p : Pe) (h : PeOk p) : Ret lb Qfv [.agg (peE p)] (.bool (Qdb p)) :=
 .top rfl (Evt.imp2 (Qlw lb p.la) (Qlw lb p.fi) fun n h1 h2 => by
  rw [show top lb n Qfv [.agg (peE p)] = _ from Qp3 lb n p.la p.fi p.ty]
  refine stO _ h1 (stO _ (Qau _) ?_)
  unfold Qdb
  cases Qga p.la with
  | true => exact stT rfl (stO _ h2 rfl)
  | false => exact stF rfl rfl)
theorem Qvf (p : Pe) (h : PeOk p) : Ret lb Qdo [.agg (peE p)] (.bool (QdM p)) :=
 .top rfl ((QfC lb p.ty 3 3 (by have := h.2.2; omega)).mono fun n h1 => by
  rw [show top lb n Qdo [.agg (peE p)] = _ from QpH lb n p.la p.fi p.ty]
  exact stO _ h1 rfl)
theorem QkC (p : Pe) : Ret lb Qa8 [.agg (peE p)] (.bool (infB p)) :=
 .top rfl (.all fun n => by
  rw [show top lb n Qa8 [.agg (peE p)] = _ from Qjv lb n p.la p.fi p.ty]
  rfl)
theorem Qu1 (p : Pe) : Ret lb Qbb [.agg (peE p)] (.bool (aduB p)) :=
 .top rfl ((QkC lb p).mono fun n h => by
  rw [show top lb n Qbb [.agg (peE p)] = _ from QjS lb n p.la p.fi p.ty]
  refine stO _ h (stO _ (Qau _) ?_)
  unfold aduB
  cases infB p with
  | true => exact stF rfl rfl
  | false => exact stT rfl rfl)
theorem QsL (bn : Bool) (l : List Pe) (hl : l.length ≤ 1000000) : ∀ (t u : List Pe) (m : Int), u ++ t = l → -(u.length : Int) ≤ m → m ≤ (u.length : Int) → Evt fun n => ∀ k, t.length < k → Qcw lb n k bn (l.map peE) m (u.length : Int) = some (.bool (decide (Qbu m t > 0)))
 | [], u, m, h, _, _ => .all fun n k hk => by
  obtain ⟨k, rfl⟩ : ∃ j, k = j + 1 := ⟨k - 1, by simp at hk; omega⟩
  have hu : u = l := by simpa using h
  rw [QgH, hu]
  refine stF (decF (by simp)) ?_
  rw [Qnd]; rfl
 | p :: t, u, m, h, m0, m1 => by
  have hul : u.length + (t.length + 1) = l.length := by rw [← h]; simp
  have hw : IntKind.wrap .i64 ((u.length : Int) + 1) = ((u ++ [p]).length : Int) := by rw [Qaw (by omega) (by omega)]; simp
  have hat : atL (l.map peE) (u.length : Int) = some (peE p) := Qbh (by rw [List.getElem?_map, ← h]; simp)
  have w1 : IntKind.wrap .i64 (m + 1) = m + 1 := Qaw (by omega) (by omega)
  have w2 : IntKind.wrap .i64 (m - 1) = m - 1 := Qaw (by omega) (by omega)
  have w3 : IntKind.wrap .i64 (m + 1 - 1) = m := by rw [Qaw (by omega) (by omega)]; omega
  have hex : infB p = true → aduB p = false := fun hi => by unfold aduB; rw [hi]; rfl
  refine Evt.imp2 (Evt.imp2 (QkC lb p) (Qu1 lb p) fun n a b => (⟨a, b⟩ : _ ∧ _)) (QsL bn l hl t (u ++ [p]) ((m + (bif infB p then 1 else 0)) - (bif aduB p then 1 else 0)) (by rw [← h]; simp)
   (by simp; cases infB p <;> cases aduB p <;> simp <;> omega) (by simp; cases infB p <;> cases aduB p <;> simp <;> omega)) fun n ⟨h1, h2⟩ hi k hk => ?_
  obtain ⟨k, rfl⟩ : ∃ j, k = j + 1 := ⟨k - 1, by simp at hk; omega⟩
  have hi := hi k (by simp at hk; omega)
  rw [QgH]
  unfold Qbu
  refine stT (decT (by simp; omega)) (stO _ hat (stC rfl (stO _ rfl (stO _ rfl (stO _ rfl (stO _ h1 (stO _ (Qau _) ?_)))))))
  cases hI : infB p with
  | true =>
   have hA := hex hI
   rw [hA] at h2
   rw [hI, hA] at hi
   rw [hA]
   refine stT rfl (stO _ h2 (stO _ (Qau _) (stF rfl ?_)))
   rw [w1, hw]
   simpa using hi
  | false =>
   refine stF rfl (stO _ h2 (stO _ (Qau _) ?_))
   cases hA : aduB p with
   | true =>
    rw [hI, hA] at hi
    refine stT rfl ?_
    rw [w2, hw]
    simpa using hi
   | false =>
    rw [hI, hA] at hi
    refine stF rfl ?_
    rw [hw]
    simpa using hi
theorem Qqs (bn : Bool) (l : List Pe) (hl : l.length ≤ 1000000) : Ret lb Qao [.list bn (l.map peE)] (.bool (decide (Qbu 0 l > 0))) :=
 .top rfl ((Evt.diag (QsL lb bn l hl l [] 0 rfl (by simp) (by simp))).mono fun n h => by rw [Qqm]; exact h)
end Go.Proofs
set_option linter.unusedSimpArgs false
set_option linter.unusedVariables false
namespace Go.Proofs
open Go.Am
variable (lb : Nat)
abbrev Fau := Int × Bs
def fauE (f : Fau) : List CV := [.int .i64 f.1, .str f.2]
def QaS (l : List Fau) : CV := .list l.isEmpty (l.map fauE)
def Qax (b : Bool) (e : Int) (at' : Bs) : List Fau := bif b then [(e, at')] else []
def QaO : Bs := [112, 97, 114, 116, 121]
theorem Qei (l : List Fau) (e : Int) (s : Bs) : l.map fauE ++ [[CV.int .i64 e, CV.str s]] = (l ++ [(e, s)]).map fauE := by simp [fauE]
theorem Qeh (l : List Fau) (x : Fau) : (l.isEmpty && false) = (l ++ [x]).isEmpty := by simp
theorem Qfo {l : List Fau} (h : l.length ≤ 1000000) : room ((l.map fauE).length + 1) 24 = true := Qb6 (by simp; omega)
theorem acc (c : Bool) (l : List Fau) (e : Int) (s : Bs) (hl : l.length ≤ 999999) (J : Bool → List (List CV) → Option CV) :
  (bif c then chkO (room ((l.map fauE).length + 1) 24) (J (l.isEmpty && false) (l.map fauE ++ [[CV.int .i64 e, CV.str s]])) else J l.isEmpty (l.map fauE)) = J (l ++ Qax c e s).isEmpty ((l ++ Qax c e s).map fauE) := by
 cases c with
 | true =>
  refine stC (Qfo (by omega)) ?_
  rw [Qei, Qeh l (e, s)]; rfl
 | false =>
  show _ = J (l ++ []).isEmpty ((l ++ []).map fauE)
  rw [List.append_nil]; rfl
theorem Qa4 (c : Bool) (e : Int) (s : Bs) : (Qax c e s).length ≤ 1 := by cases c <;> simp [Qax]
def idxF {α : Type} (f : Nat → α → List Fau) : Nat → List α → List Fau
 | _, [] => []
 | i, x :: t => f i x ++ idxF f (i + 1) t
theorem Qes {α : Type} (f : Nat → α → List Fau) (x : α) : ∀ (l : List α) (i : Nat), idxF f i (l ++ [x]) = idxF f i l ++ f (i + l.length) x
 | [], i => by simp [idxF]
 | y :: l, i => by
  simp only [List.cons_append, idxF, Qes f x l (i + 1), List.append_assoc, List.length_cons]
  rw [show i + 1 + l.length = i + (l.length + 1) by omega]
theorem QeB {α : Type} {f : Nat → α → List Fau} {c : Nat} (h : ∀ i x, (f i x).length ≤ c) : ∀ (l : List α) (i : Nat), (idxF f i l).length ≤ c * l.length
 | [], i => by simp [idxF]
 | y :: l, i => by
  have := QeB h l (i + 1)
  have := h i y
  simp only [idxF, List.length_append, List.length_cons, Nat.mul_add]
  omega
theorem QfS {n : Nat} {bn : Bool} {ps : List (List CV)} {a : Bool} (h : C lb n Qao [.list bn ps] = some (.bool a)) (l : List Fau) (hl : l.length ≤ 1000000) :
  (optO (C lb n Qao [.list bn ps]) fun r => optO (CV.asB r) fun b => bif b then (chkO (room ((l.map fauE).length + 1) 24) (some (.list (l.isEmpty && false) (l.map fauE ++ [[CV.int .i64 25, CV.str [112, 97, 114, 116, 121]]])))) else (some (.list l.isEmpty (l.map fauE)))) = some (QaS (l ++ Qax a 25 QaO)) := by
 refine stO _ h (stO _ (Qau _) ?_)
 cases a with
 | true =>
  refine stT rfl (stC (Qfo hl) ?_)
  rw [Qei, Qeh l (25, [112, 97, 114, 116, 121])]; rfl
 | false =>
  refine stF rfl ?_
  show _ = some (QaS (l ++ []))
  rw [List.append_nil]; rfl
def QaL (n g : Int) : Bool := decide (n + g = 0) || ((g == 0 && decide (n > 9)) || decide (n + g > 99))
theorem QvU (bn : Bool) (ps : List Pe) (grp : Int) (l : List Fau) (g : Int) (hps : ps.length ≤ 1000000) (hl : l.length ≤ 999999) (g0 : 0 ≤ g) (g1 : g ≤ 99) :
  Evt fun n => Qg4 lb n bn (ps.map peE) grp l.isEmpty (l.map fauE) g = some (QaS ((l ++ Qax (QaL ps.length g) 4 QaO) ++ Qax (decide (Qbu 0 ps > 0)) 25 QaO)) :=
 (Qqs lb bn ps hps).mono fun n h => by
  have hlen : (((ps.map peE).length : Nat) : Int) = (ps.length : Int) := by simp
  have hw : IntKind.wrap .i64 ((ps.length : Int) + g) = (ps.length : Int) + g := Qaw (by omega) (by omega)
  have bad : (chkO (room ((l.map fauE).length + 1) 24) (optO (C lb n Qao [.list bn (ps.map peE)]) fun r => optO (CV.asB r) fun b => bif b then (chkO (room ((l.map fauE ++ [[CV.int .i64 4, CV.str [112, 97, 114, 116, 121]]]).length + 1) 24) (some (.list ((l.isEmpty && false) && false) ((l.map fauE ++ [[CV.int .i64 4, CV.str [112, 97, 114, 116, 121]]]) ++ [[CV.int .i64 25, CV.str [112, 97, 114, 116, 121]]])))) else (some (.list (l.isEmpty && false) (l.map fauE ++ [[CV.int .i64 4, CV.str [112, 97, 114, 116, 121]]]))))) = some (QaS ((l ++ Qax true 4 QaO) ++ Qax (decide (Qbu 0 ps > 0)) 25 QaO)) := by
   refine stC (Qfo (by omega)) ?_
   rw [Qei, Qeh l (4, [112, 97, 114, 116, 121])]
   exact QfS lb h (l ++ [(4, QaO)]) (by simp; omega)
  have good : ∀ {r}, r = some (QaS (l ++ Qax (decide (Qbu 0 ps > 0)) 25 QaO)) → r = some (QaS ((l ++ Qax false 4 QaO) ++ Qax (decide (Qbu 0 ps > 0)) 25 QaO)) := fun e => by
   rw [e]; show _ = some (QaS ((l ++ []) ++ _)); rw [List.append_nil]
  rw [Qnf, hlen, hw]
  by_cases h0 : (ps.length : Int) + g = 0
  ·rw [show QaL ps.length g = true by simp [QaL, h0]]
   exact stT (beqT h0) bad
  refine stF (beqF h0) ?_
  by_cases hg : g = 0
  ·refine stT (beqT hg) ?_
   by_cases h9 : (ps.length : Int) > 9
   ·rw [show QaL ps.length g = true by simp [QaL, hg]; omega]
    exact stT (decT h9) bad
   refine stF (decF h9) ?_
   by_cases h99 : (ps.length : Int) + g > 99
   ·omega
   rw [show QaL ps.length g = false by simp [QaL]; omega]
   exact stF (decF h99) (good (QfS lb h l (by omega)))
  ·refine stF (beqF hg) ?_
   by_cases h99 : (ps.length : Int) + g > 99
   ·rw [show QaL ps.length g = true by simp [QaL]; omega]
    exact stT (decT h99) bad
   rw [show QaL ps.length g = false by simp [QaL]; omega]
   exact stF (decF h99) (good (QfS lb h l (by omega)))
theorem QrJ (bn : Bool) (ps : List Pe) (grp : Int) (l : List Fau) (g : Int) (hps : ps.length ≤ 1000000) (hl : l.length ≤ 999999) (g0 : 0 ≤ g) (g1 : g ≤ 99) :
  Evt fun n => QeT lb n bn (ps.map peE) grp l.isEmpty (l.map fauE) g = some (QaS ((l ++ Qax (QaL ps.length g) 4 QaO) ++ Qax (decide (Qbu 0 ps > 0)) 25 QaO)) :=
 (Qqs lb bn ps hps).mono fun n h => by
  have hlen : (((ps.map peE).length : Nat) : Int) = (ps.length : Int) := by simp
  have hw : IntKind.wrap .i64 ((ps.length : Int) + g) = (ps.length : Int) + g := Qaw (by omega) (by omega)
  have bad : (chkO (room ((l.map fauE).length + 1) 24) (optO (C lb n Qao [.list bn (ps.map peE)]) fun r => optO (CV.asB r) fun b => bif b then (chkO (room ((l.map fauE ++ [[CV.int .i64 4, CV.str [112, 97, 114, 116, 121]]]).length + 1) 24) (some (.list ((l.isEmpty && false) && false) ((l.map fauE ++ [[CV.int .i64 4, CV.str [112, 97, 114, 116, 121]]]) ++ [[CV.int .i64 25, CV.str [112, 97, 114, 116, 121]]])))) else (some (.list (l.isEmpty && false) (l.map fauE ++ [[CV.int .i64 4, CV.str [112, 97, 114, 116, 121]]]))))) = some (QaS ((l ++ Qax true 4 QaO) ++ Qax (decide (Qbu 0 ps > 0)) 25 QaO)) := by
   refine stC (Qfo (by omega)) ?_
   rw [Qei, Qeh l (4, [112, 97, 114, 116, 121])]
   exact QfS lb h (l ++ [(4, QaO)]) (by simp; omega)
  have good : ∀ {r}, r = some (QaS (l ++ Qax (decide (Qbu 0 ps > 0)) 25 QaO)) → r = some (QaS ((l ++ Qax false 4 QaO) ++ Qax (decide (Qbu 0 ps > 0)) 25 QaO)) := fun e => by
   rw [e]; show _ = some (QaS ((l ++ []) ++ _)); rw [List.append_nil]
  rw [Qni, hlen, hw]
  by_cases h0 : (ps.length : Int) + g = 0
  ·rw [show QaL ps.length g = true by simp [QaL, h0]]
   exact stT (beqT h0) bad
  refine stF (beqF h0) ?_
  by_cases hg : g = 0
  ·refine stT (beqT hg) ?_
   by_cases h9 : (ps.length : Int) > 9
   ·rw [show QaL ps.length g = true by simp [QaL, hg]; omega]
    exact stT (decT h9) bad
   refine stF (decF h9) ?_
   by_cases h99 : (ps.length : Int) + g > 99
   ·omega
   rw [show QaL ps.length g = false by simp [QaL]; omega]
   exact stF (decF h99) (good (QfS lb h l (by omega)))
  ·refine stF (beqF hg) ?_
   by_cases h99 : (ps.length : Int) + g > 99
   ·rw [show QaL ps.length g = true by simp [QaL]; omega]
    exact stT (decT h99) bad
   rw [show QaL ps.length g = false by simp [QaL]; omega]
   exact stF (decF h99) (good (QfS lb h l (by omega)))
def Qcf (g : Int) : Bool := decide (g < 0) || decide (g > 99)
def QfP (ps : List Pe) (g : Int) : List Fau := Qax (Qcf g) 2 QaO ++ (Qax (QaL ps.length (bif Qcf g then 0 else g)) 4 QaO ++ Qax (decide (Qbu 0 ps > 0)) 25 QaO)
theorem Qv2 (bn : Bool) (ps : List Pe) (grp : Int) (l : List Fau) (hps : ps.length ≤ 1000000) (hl : l.length ≤ 999998) :
  Evt fun n => QgP lb n bn (ps.map peE) grp l.isEmpty (l.map fauE) = some (QaS (l ++ QfP ps grp)) := by
 unfold QfP
 by_cases h0 : grp < 0
 ·have hb : Qcf grp = true := by simp [Qcf, h0]
  refine (QvU lb bn ps grp (l ++ [(2, QaO)]) 0 hps (by simp; omega) (by omega) (by omega)).mono fun n h => ?_
  rw [Qe8]
  refine stT (decT h0) (stC (Qfo (by omega)) ?_)
  rw [Qm7, Qei, Qeh l (2, [112, 97, 114, 116, 121]), hb]
  simpa [Qax, QaO] using h
 by_cases h1 : grp > 99
 ·have hb : Qcf grp = true := by simp [Qcf, h1]
  refine (QrJ lb bn ps grp (l ++ [(2, QaO)]) 0 hps (by simp; omega) (by omega) (by omega)).mono fun n h => ?_
  rw [Qe8]
  refine stF (decF h0) (stT (decT h1) (stC (Qfo (by omega)) ?_))
  rw [QhX, Qei, Qeh l (2, [112, 97, 114, 116, 121]), hb]
  refine stT (decT h1) ?_
  simpa [Qax, QaO] using h
 ·have hb : Qcf grp = false := by simp [Qcf]; omega
  refine (QrJ lb bn ps grp l grp hps (by omega) (by omega) (by omega)).mono fun n h => ?_
  rw [Qe8]
  refine stF (decF h0) (stF (decF h1) ?_)
  rw [QhX, hb]
  refine stF (decF h1) ?_
  simpa [Qax] using h
def QbS : Bs := [112, 101, 114, 115, 111, 110, 32]
def perF (i : Nat) (p : Pe) : List Fau := Qax (!Qdb p) 5 (QbS ++ Lib.itoa (i : Int)) ++ Qax (!QdM p) 8 (QbS ++ Lib.itoa (i : Int))
theorem Qoe (i : Nat) (p : Pe) : (perF i p).length ≤ 2 := by
 unfold perF
 have := Qa4 (!Qdb p) 5 (QbS ++ Lib.itoa (i : Int))
 have := Qa4 (!QdM p) 8 (QbS ++ Lib.itoa (i : Int))
 rw [List.length_append]; omega
def QaG (ps : List Pe) (g : Int) : List Fau := idxF perF 0 ps ++ QfP ps g
theorem Qo9 (bn : Bool) (ps : List Pe) (grp : Int) (hps : ps.length ≤ 100000) (hok : ∀ p ∈ ps, PeOk p) : Ret lb QaK [.list bn (ps.map peE), .int .i64 grp] (QaS (QaG ps grp)) := by
 have hlen : ∀ l : List Pe, (idxF perF 0 l).length ≤ 2 * l.length := fun l => QeB Qoe l 0
 refine .top rfl ((Evt.diag (Qen (enc := peE) (l := ps) (P := fun p t n k => party_Check_L1 lb n k bn (ps.map peE) grp (p.length : Int) (idxF perF 0 p).isEmpty ((idxF perF 0 p).map fauE) = some (QaS (QaG ps grp))) (by omega)
  ((Qv2 lb bn ps grp (idxF perF 0 ps) (by omega) (by have := hlen ps; omega)).mono fun n h k => by
    rw [QgC]
    exact stF (decF (by simp)) h)
  (fun p x t h h1 h2 h3 ih => by
   have hpl : p.length + (t.length + 1) = ps.length := by rw [← h]; simp
   have hx : PeOk x := hok x (by rw [← h]; simp)
   have hil := QeM (z := (p.length : Int)) (by omega) (by omega)
   have hF := hlen p
   refine Evt.imp2 (Evt.imp2 (QuN lb x hx) (Evt.imp2 (Qvf lb x hx) (QfL lb (p.length : Int) (by omega) (by omega)) fun n a b => And.intro a b) fun n a b => And.intro a b) ih fun n ⟨c1, c2, c3⟩ hi k hk => ?_
   have hi := hi k hk
   rw [QgC]
   refine stT (decT h1) (stO _ h2 (stC rfl (stO _ rfl (stO _ rfl (stO _ rfl (stO _ c3 (stO _ rfl (stC (decT (by simp; omega)) (stO _ c1 (stO _ (Qau _) ?_))))))))))
   rw [h3]
   rw [Qes, Nat.zero_add] at hi
   rw [show perF p.length x = Qax (!Qdb x) 5 (QbS ++ Lib.itoa (p.length : Int)) ++ Qax (!QdM x) 8 (QbS ++ Lib.itoa (p.length : Int)) from rfl] at hi
   rw [← List.append_assoc] at hi
   have step : ∀ l : List Fau, l.length ≤ 999999 → (optO (C lb n Qdo [.agg [.str x.la, .str x.fi, .str x.ty]]) fun r => optO (CV.asB r) fun b => bif (!b) then chkO (room ((l.map fauE).length + 1) 24) (party_Check_L1 lb n k bn (ps.map peE) grp ((p ++ [x]).length : Int) (l.isEmpty && false) (l.map fauE ++ [[CV.int .i64 8, CV.str (QbS ++ Lib.itoa (p.length : Int))]])) else party_Check_L1 lb n k bn (ps.map peE) grp ((p ++ [x]).length : Int) l.isEmpty (l.map fauE)) = party_Check_L1 lb n k bn (ps.map peE) grp ((p ++ [x]).length : Int) (l ++ Qax (!QdM x) 8 (QbS ++ Lib.itoa (p.length : Int))).isEmpty ((l ++ Qax (!QdM x) 8 (QbS ++ Lib.itoa (p.length : Int))).map fauE) := fun l hl =>
    stO _ c2 (stO _ (Qau _) (acc (!QdM x) l 8 (QbS ++ Lib.itoa (p.length : Int)) hl (fun b l => party_Check_L1 lb n k bn (ps.map peE) grp ((p ++ [x]).length : Int) b l)))
   cases hn : Qdb x with
   | true =>
    refine stF rfl ((step _ (by omega)).trans ?_)
    rw [hn] at hi
    have e : idxF perF 0 p ++ Qax (!true) 5 (QbS ++ Lib.itoa (p.length : Int)) = idxF perF 0 p := List.append_nil _
    rw [e] at hi
    exact hi
   | false =>
    rw [hn] at hi
    refine stT rfl (stC (Qfo (by omega)) ?_)
    rw [Qei, Qeh (idxF perF 0 p) (5, [112, 101, 114, 115, 111, 110, 32] ++ Lib.itoa (p.length : Int))]
    exact (step (idxF perF 0 p ++ [(5, QbS ++ Lib.itoa (p.length : Int))]) (by simp; omega)).trans hi) ps [] rfl)).mono fun n h => by rw [QpT]; exact h)
end Go.Proofs
set_option linter.unusedSimpArgs false
set_option linter.unusedVariables false
namespace Go.Proofs
open Go.Am
variable (lb : Nat)
structure Sv where
 cd : Bs
 pe : Int
 sg : Int
def svE (x : Sv) : List CV := [.str x.cd, .int .i64 x.pe, .int .i64 x.sg]
def QiK : Bs := [108, 111, 99, 97, 116, 111, 114]
def QeJ : Bs := [108, 105, 109, 105, 116]
def QbR : Bs := [115, 101, 103, 115]
def segS : Bs := [115, 101, 103, 32]
def Qbs : Bs := [115, 101, 114, 118, 105, 99, 101, 32]
def Qfi (x : Int) : Bool := decide (x < 0) || decide (x ≥ 52596000)
def Qek (np ns : Int) (x : Sv) : Bool := decide (x.pe < 0) || (decide (x.pe ≥ np) || (decide (x.sg < 0) || decide (x.sg ≥ ns)))
def svF (np ns : Int) (i : Nat) (x : Sv) : List Fau := Qax (!Qa1 x.cd 4 4) 5 (Qbs ++ Lib.itoa (i : Int)) ++ Qax (Qek np ns x) 7 (Qbs ++ Lib.itoa (i : Int))
def segF (i : Nat) (s : Sg) : List Fau := (QcE s).map fun e => (e, segS ++ Lib.itoa (i : Int))
def Qi4 (loc : Bs) (ps : List Pe) (g : Int) (l : List Sg) (svs : List Sv) (lim : Int) : List Fau :=
 (((((Qax (!Qa1 loc 6 6) 5 QiK ++ Qax (Qfi lim) 13 QeJ) ++ QaG ps g) ++ Qax (decide ((l.length : Int) > 24)) 4 QbR) ++ Qax (marE (mars l) != 0) (marE (mars l)) QbR) ++ idxF segF 0 l) ++ idxF (svF ps.length l.length) 0 svs
theorem accT (l : List Fau) (e : Int) (s : Bs) (hl : l.length ≤ 999999) (J : Bool → List (List CV) → Option CV) :
  chkO (room ((l.map fauE).length + 1) 24) (J (l.isEmpty && false) (l.map fauE ++ [[CV.int .i64 e, CV.str s]])) = J (l ++ Qax true e s).isEmpty ((l ++ Qax true e s).map fauE) := by
 refine stC (Qfo (by omega)) ?_
 rw [Qei, Qeh l (e, s)]; rfl
theorem accF (l : List Fau) (e : Int) (s : Bs) (J : Bool → List (List CV) → Option CV) : J l.isEmpty (l.map fauE) = J (l ++ Qax false e s).isEmpty ((l ++ Qax false e s).map fauE) := by
 show _ = J (l ++ []).isEmpty ((l ++ []).map fauE)
 rw [List.append_nil]
theorem QtL (np ns : Int) (i : Nat) (x : Sv) : (svF np ns i x).length ≤ 2 := by
 unfold svF
 have := Qa4 (!Qa1 x.cd 4 4) 5 (Qbs ++ Lib.itoa (i : Int))
 have := Qa4 (Qek np ns x) 7 (Qbs ++ Lib.itoa (i : Int))
 rw [List.length_append]; omega
theorem Qi2 (b : Bool) (e : Int) : (Qbj b e).length ≤ 1 := by cases b <;> simp [Qbj]
theorem Qf2 (s : Sg) : (QcE s).length ≤ 4 := by
 unfold QcE
 have := Qi2 (Qct s) 5
 have := Qi2 (Qdu s) 13
 have := Qi2 (QcU s.cls) 16
 have := Qi2 (stOk s.st) 10
 simp only [List.length_append]; omega
theorem QsD (i : Nat) (s : Sg) : (segF i s).length ≤ 4 := by unfold segF; rw [List.length_map]; exact Qf2 s
theorem Qxy (n y9 : Nat) (jj : List UInt8) (jb : Bool) (jd : List (List CV)) (jg : Int) (ja : Bool) (jf : List (List CV)) (je : Bool) (jh : List (List CV)) (jc : Int) (jx : CV) (wn : Int) (va : List UInt8) (ju : Bool) (js : List (List CV)) (jl : CV) (jt : Bool × List (List CV)) (jA : CV) (vM : List CV) (yE v6 vQ kc : CV) (x : Sv) (h7 : v6 = .int .i64 x.pe) (h8 : vQ = .int .i64 x.sg) (G : List Fau) (hG : G.length ≤ 999999) :
  QcQ lb n y9 jj jb jd jg ja jf je jh jc jx wn va ju js jl jt jA vM yE v6 vQ kc G.isEmpty (G.map fauE) = Qa2 lb n y9 jj jb jd jg ja jf je jh jc jx ju js jl jt jA (IntKind.wrap .i64 (wn + 1)) (G ++ Qax (Qek jd.length jf.length x) 7 (Qbs ++ va)).isEmpty ((G ++ Qax (Qek jd.length jf.length x) 7 (Qbs ++ va)).map fauE) := by
 subst h7; subst h8
 have hT := accT G 7 (Qbs ++ va) hG (fun b l => Qa2 lb n y9 jj jb jd jg ja jf je jh jc jx ju js jl jt jA (IntKind.wrap .i64 (wn + 1)) b l)
 have hF := accF G 7 (Qbs ++ va) (fun b l => Qa2 lb n y9 jj jb jd jg ja jf je jh jc jx ju js jl jt jA (IntKind.wrap .i64 (wn + 1)) b l)
 rw [QkK]
 unfold Qek
 refine stO _ (Qas ..) ?_
 cases decide (x.pe < 0) with
 | true => exact stT rfl hT
 | false =>
  refine stF rfl (stO _ (Qas ..) ?_)
  cases decide (x.pe ≥ (jd.length : Int)) with
  | true => exact stT rfl hT
  | false =>
   refine stF rfl (stO _ (Qas ..) ?_)
   cases decide (x.sg < 0) with
   | true => exact stT rfl hT
   | false =>
    refine stF rfl (stO _ (Qas ..) ?_)
    cases decide (x.sg ≥ (jf.length : Int)) with
    | true => exact stT rfl hT
    | false => exact stF rfl hF
theorem QyN (n : Nat) (jj : List UInt8) (jb : Bool) (jd : List (List CV)) (jg : Int) (ja : Bool) (jf : List (List CV)) (je : Bool) (jh : List (List CV)) (jc : Int) (jx : CV) (ju : Bool) (js : List (List CV)) (jl : CV) (jt : Bool × List (List CV)) (jA : CV) (svs : List Sv) (h9 : jh = svs.map svE) (hl : svs.length ≤ 100000) (hok : ∀ x ∈ svs, x.cd.length ≤ 281474976710656) (F : List Fau) (hF : F.length ≤ 500000) :
  Evt fun n => QfF lb n jj jb jd jg ja jf je jh jc jx ju js jl jt jA F.isEmpty (F.map fauE) = some (QaS (F ++ idxF (svF jd.length jf.length) 0 svs)) := by
 subst h9
 have hlen : ∀ l : List Sv, (idxF (svF jd.length jf.length) 0 l).length ≤ 2 * l.length := fun l => QeB (QtL _ _) l 0
 refine (Evt.diag (Qen (enc := svE) (l := svs) (P := fun p t n k => Qa2 lb n k jj jb jd jg ja jf je (svs.map svE) jc jx ju js jl jt jA (p.length : Int) (F ++ idxF (svF jd.length jf.length) 0 p).isEmpty ((F ++ idxF (svF jd.length jf.length) 0 p).map fauE) = some (QaS (F ++ idxF (svF jd.length jf.length) 0 svs))) (by omega)
  (.all fun n k => by
   rw [QfV]
   refine stF (decF (by simp)) ?_
   rw [Qld]
   rfl)
  (fun p x t h h1 h2 h3 ih => by
   have hpl : p.length + (t.length + 1) = svs.length := by rw [← h]; simp
   have hx := hok x (by rw [← h]; simp)
   have hil := QeM (z := (p.length : Int)) (by omega) (by omega)
   have hP := hlen p
   refine Evt.imp2 (Evt.imp2 (QfC lb x.cd 4 4 hx) (QfL lb (p.length : Int) (by omega) (by omega)) fun n a b => And.intro a b) ih fun n ⟨c1, c2⟩ hi k hk => ?_
   have hi := hi k hk
   rw [QfV]
   refine stT (decT h1) (stO _ h2 (stC rfl (stO _ rfl (stO _ rfl (stO _ rfl (stO _ c2 (stO _ rfl (stC (decT (by simp; omega)) (stO _ c1 (stO _ (Qau _) ?_))))))))))
   refine (acc (!Qa1 x.cd 4 4) (F ++ idxF (svF jd.length jf.length) 0 p) 5 (Qbs ++ Lib.itoa (p.length : Int)) (by simp; omega) (fun b l => QcQ lb n k jj jb jd jg ja jf je (svs.map svE) jc jx (p.length : Int) (Lib.itoa (p.length : Int)) ju js jl jt jA (svE x) (.str x.cd) (.int .i64 x.pe) (.int .i64 x.sg) (.str (Lib.itoa (p.length : Int))) b l)).trans ?_
   refine (Qxy (x := x) (h7 := rfl) (h8 := rfl) (hG := by
    have := Qa4 (!Qa1 x.cd 4 4) 5 (Qbs ++ Lib.itoa (p.length : Int))
    rw [List.length_append, List.length_append]; omega) ..).trans ?_
   rw [h3]
   rw [Qes, Nat.zero_add] at hi
   rw [show svF jd.length jf.length p.length x = Qax (!Qa1 x.cd 4 4) 5 (Qbs ++ Lib.itoa (p.length : Int)) ++ Qax (Qek jd.length jf.length x) 7 (Qbs ++ Lib.itoa (p.length : Int)) from rfl] at hi
   simp only [List.append_assoc] at hi ⊢
   exact hi) svs [] rfl)).mono fun n h => by
   rw [QlE]
   have e : F ++ idxF (svF jd.length jf.length) 0 ([] : List Sv) = F := List.append_nil F
   rw [e] at h
   exact h
theorem QwC (n vn : Nat) (jj : List UInt8) (jb : Bool) (jd : List (List CV)) (jg : Int) (ja : Bool) (jf : List (List CV)) (je : Bool) (jh : List (List CV)) (jc : Int) (jx : CV) (yK : Int) (ju : Bool) (js : List (List CV)) (jl : CV) (jt : Bool × List (List CV)) (jA : CV) (yM : List CV) (wA wv wl wp jC jH w5 jI jG jF vo : CV) (vO : Bool × List (List CV)) (m : Nat) (h59 : yK = (m : Int)) (hm : m ≤ 1000000) (er : List Int) (hr : vo = errV er) (hp : vO = (er.isEmpty, er.map icv)) (her : er.length ≤ 10) (F : List Fau) (hF : F.length ≤ 900000) (hdec : C lb n Qc1 [.int .i64 yK] = some (.str (Lib.itoa (m : Int)))) : ∀ (t p : List Int), p ++ t = er → ∀ k, t.length < k →
  Qdi lb n k vn jj jb jd jg ja jf je jh jc jx yK ju js jl jt jA yM wA wv wl wp jC jH w5 jI jG jF vo vO (p.length : Int) (F ++ p.map fun e => (e, segS ++ Lib.itoa (m : Int))).isEmpty ((F ++ p.map fun e => (e, segS ++ Lib.itoa (m : Int))).map fauE) = Qc9 lb n vn jj jb jd jg ja jf je jh jc jx ju js jl jt jA (IntKind.wrap .i64 (yK + 1)) (F ++ er.map fun e => (e, segS ++ Lib.itoa (m : Int))).isEmpty ((F ++ er.map fun e => (e, segS ++ Lib.itoa (m : Int))).map fauE)
 | [], p, h, k, hk => by
  obtain ⟨k, rfl⟩ : ∃ j, k = j + 1 := ⟨k - 1, by simp at hk; omega⟩
  have hpe : p = er := by simpa using h
  subst hpe; subst hp
  rw [QfY]
  refine stF (decF (by simp)) ?_
  rw [QlJ]
 | e :: t, p, h, k, hk => by
  obtain ⟨k, rfl⟩ : ∃ j, k = j + 1 := ⟨k - 1, by simp at hk; omega⟩
  have hpl : p.length + (t.length + 1) = er.length := by rw [← h]; simp
  have hil := QeM (z := (m : Int)) (by omega) (by omega)
  have hw : IntKind.wrap .i64 ((p.length : Int) + 1) = ((p ++ [e]).length : Int) := by rw [Qaw (by omega) (by omega)]; simp
  have hat : atL (er.map icv) (p.length : Int) = some (icv e) := Qbh (by rw [List.getElem?_map, ← h]; simp)
  have ih := QwC n vn jj jb jd jg ja jf je jh jc jx yK ju js jl jt jA yM wA wv wl wp jC jH w5 jI jG jF vo vO m h59 hm er hr hp her F hF hdec t (p ++ [e]) (by rw [← h]; simp) k (by simp at hk; omega)
  have hFl : (F ++ p.map fun e => (e, segS ++ Lib.itoa (m : Int))).length ≤ 999999 := by rw [List.length_append, List.length_map]; omega
  subst hr; subst hp
  rw [QfY]
  refine stT (decT (by simp; omega)) (stO _ rfl (stO _ hat (stC rfl (stO _ rfl (stO _ hdec (stO _ rfl (stC (decT (by simp; omega)) (stC rfl ?_))))))))
  refine (accT (F ++ p.map fun e => (e, segS ++ Lib.itoa (m : Int))) e (segS ++ Lib.itoa (m : Int)) hFl (fun b l => Qdi lb n k vn jj jb jd jg ja jf je jh jc jx yK ju js jl jt jA yM wA wv wl wp jC jH w5 jI jG jF (errV er) (er.isEmpty, er.map icv) (IntKind.wrap .i64 ((p.length : Int) + 1)) b l)).trans ?_
  rw [hw]
  rw [List.map_append, ← List.append_assoc] at ih
  exact ih
theorem Qyx (n : Nat) (jj : List UInt8) (jb : Bool) (jd : List (List CV)) (jg : Int) (ja : Bool) (jf : List (List CV)) (je : Bool) (jh : List (List CV)) (jc : Int) (jx : CV) (ju : Bool) (js : List (List CV)) (jl : CV) (jt : Bool × List (List CV)) (jA : CV) (segs : List Sg) (h6 : jf = segs.map sgE) (hs : segs.length ≤ 1000) (hsok : ∀ s ∈ segs, s.car.length ≤ 281474976710656 ∧ s.fr.length ≤ 281474976710656 ∧ s.to.length ≤ 281474976710656) (svs : List Sv) (h9 : jh = svs.map svE) (hl : svs.length ≤ 100000) (hok : ∀ x ∈ svs, x.cd.length ≤ 281474976710656) (F : List Fau) (hF : F.length ≤ 400000) :
  Evt fun n => Qdh lb n jj jb jd jg ja jf je jh jc jx ju js jl jt jA F.isEmpty (F.map fauE) = some (QaS ((F ++ idxF segF 0 segs) ++ idxF (svF jd.length jf.length) 0 svs)) := by
 have hlen : ∀ l : List Sg, (idxF segF 0 l).length ≤ 4 * l.length := fun l => QeB QsD l 0
 have h8 := QyN lb 0 jj jb jd jg ja jf je jh jc jx ju js jl jt jA svs h9 hl hok (F ++ idxF segF 0 segs) (by have := hlen segs; rw [List.length_append]; omega)
 subst h6
 refine (Evt.diag (Qen (enc := sgE) (l := segs) (P := fun p t n k => Qc9 lb n k jj jb jd jg ja (segs.map sgE) je jh jc jx ju js jl jt jA (p.length : Int) (F ++ idxF segF 0 p).isEmpty ((F ++ idxF segF 0 p).map fauE) = some (QaS ((F ++ idxF segF 0 segs) ++ idxF (svF jd.length (segs.map sgE).length) 0 svs))) (by omega)
  (h8.mono fun n h k => by
   rw [QfX]
   exact stF (decF (by simp)) h)
  (fun p x t h h1 h2 h3 ih => by
   have hpl : p.length + (t.length + 1) = segs.length := by rw [← h]; simp
   have hx := hsok x (by rw [← h]; simp)
   have hP := hlen p
   refine Evt.imp2 (Evt.imp2 (Qxh lb x hx.1 hx.2.1 hx.2.2) (Evt.imp2 (QfL lb (p.length : Int) (by omega) (by omega)) (Evt.ge 6) fun n a b => And.intro a b) fun n a b => And.intro a b) ih fun n ⟨c1, c2, c3⟩ hi k hk => ?_
   have hi := hi k hk
   rw [QfX]
   refine stT (decT h1) (stO _ h2 (stC rfl (stO _ rfl (stO _ rfl (stO _ rfl (stO _ rfl (stO _ rfl (stO _ rfl (stO _ rfl (stO _ rfl (stO _ rfl (stO _ rfl (stO _ c1 (stO _ rfl ?_))))))))))))))
   have hL := QwC (lb := lb) (n := n) (vn := k) (m := p.length) (yK := (p.length : Int)) (h59 := rfl) (hm := by omega) (er := QcE x) (vo := errV (QcE x)) (vO := ((QcE x).isEmpty, (QcE x).map icv)) (hr := rfl) (hp := rfl) (her := by have := Qf2 x; omega) (F := F ++ idxF segF 0 p) (hF := by rw [List.length_append]; omega) (hdec := c2) (jj := jj) (jb := jb) (jd := jd) (jg := jg) (ja := ja) (jf := segs.map sgE) (je := je) (jh := jh) (jc := jc) (jx := jx) (ju := ju) (js := js) (jl := jl) (jt := jt) (jA := jA) (yM := sgE x) (wA := .str x.car) (wv := .int .i64 x.num) (wl := .int .i64 x.day) (wp := .str x.fr) (jC := .str x.to) (jH := .int .i64 x.dep) (w5 := .int .i64 x.arr) (jI := .str x.cls) (jG := .int .i64 x.st) (jF := .int .i64 x.mar) (QcE x) [] rfl n (by have := Qf2 x; omega)
   rw [List.map_nil, List.append_nil, h3] at hL
   refine Eq.trans hL ?_
   rw [Qes, Nat.zero_add] at hi
   rw [show segF p.length x = (QcE x).map (fun e => (e, segS ++ Lib.itoa (p.length : Int))) from rfl] at hi
   rw [List.append_assoc]
   exact hi) segs [] rfl)).mono fun n h => by
   rw [QlB]
   have e : F ++ idxF segF 0 ([] : List Sg) = F := List.append_nil F
   rw [e] at h
   exact h
theorem QnR (s : Bs) (hs : s.length ≤ 281474976710656) : Ret lb QcR [.str s] (.bool (Qa1 s 6 6)) :=
 .top rfl ((QfC lb s 6 6 hs).mono fun n h => by
  rw [Qmz]
  exact stO _ h rfl)
theorem QtC (ps : List Pe) (g : Int) : (QaG ps g).length ≤ 2 * ps.length + 3 := by
 unfold QaG QfP
 have := QeB Qoe ps 0
 have := Qa4 (Qcf g) 2 QaO
 have := Qa4 (QaL ps.length (bif Qcf g then 0 else g)) 4 QaO
 have := Qa4 (decide (Qbu 0 ps > 0)) 25 QaO
 simp only [List.length_append]; omega
theorem Qyl (n : Nat) (jj : List UInt8) (jb : Bool) (jd : List (List CV)) (jg : Int) (ja : Bool) (jf : List (List CV)) (je : Bool) (jh : List (List CV)) (jc : Int) (ju : Bool) (js : List (List CV)) (jl : CV) (jt : Bool × List (List CV)) (segs : List Sg) (h6 : jf = segs.map sgE) (hs : segs.length ≤ 1000) (hsok : ∀ s ∈ segs, s.car.length ≤ 281474976710656 ∧ s.fr.length ≤ 281474976710656 ∧ s.to.length ≤ 281474976710656) (svs : List Sv) (h9 : jh = svs.map svE) (hl : svs.length ≤ 100000) (hok : ∀ x ∈ svs, x.cd.length ≤ 281474976710656) (F : List Fau) (hF : F.length ≤ 300000) :
  Evt fun n => Qb3 lb n jj jb jd jg ja jf je jh jc ju js jl jt F.isEmpty (F.map fauE) = some (QaS (((F ++ Qax (marE (mars segs) != 0) (marE (mars segs)) QbR) ++ idxF segF 0 segs) ++ idxF (svF jd.length jf.length) 0 svs)) := by
 have h4 := Qyx lb 0 jj jb jd jg ja jf je jh jc (.int .i64 (marE (mars segs))) ju js jl jt (.list false ((mars segs).map icv)) segs h6 hs hsok svs h9 hl hok (F ++ Qax (marE (mars segs) != 0) (marE (mars segs)) QbR) (by
  have := Qa4 (marE (mars segs) != 0) (marE (mars segs)) QbR
  rw [List.length_append]; omega)
 have hmm : (mars segs).length ≤ 1000 := by simpa [mars] using hs
 subst h6
 refine Evt.imp2 (Evt.imp2 (Qrk lb ja segs (by omega)) (Qpc lb false (mars segs) (by omega)) fun n a b => And.intro a b) h4 fun n ⟨c1, c2⟩ h => ?_
 rw [QlH]
 refine stO _ c1 (stO _ c2 (stO _ (Qas ..) ?_))
 exact (acc (marE (mars segs) != 0) F (marE (mars segs)) QbR (by omega) (fun b l => Qdh lb n jj jb jd jg ja (segs.map sgE) je jh jc (.int .i64 (marE (mars segs))) ju js jl jt (.list false ((mars segs).map icv)) b l)).trans h
theorem Qyd (n : Nat) (jj : List UInt8) (jb : Bool) (jd : List (List CV)) (jg : Int) (ja : Bool) (jf : List (List CV)) (je : Bool) (jh : List (List CV)) (jc : Int) (ps : List Pe) (h3 : jd = ps.map peE) (hps : ps.length ≤ 1000) (hpok : ∀ p ∈ ps, PeOk p) (segs : List Sg) (h6 : jf = segs.map sgE) (hs : segs.length ≤ 1000) (hsok : ∀ s ∈ segs, s.car.length ≤ 281474976710656 ∧ s.fr.length ≤ 281474976710656 ∧ s.to.length ≤ 281474976710656) (svs : List Sv) (h9 : jh = svs.map svE) (hl : svs.length ≤ 100000) (hok : ∀ x ∈ svs, x.cd.length ≤ 281474976710656) (F : List Fau) (hF : F.length ≤ 10) :
  Evt fun n => Qb1 lb n jj jb jd jg ja jf je jh jc F.isEmpty (F.map fauE) = some (QaS (((((F ++ QaG ps jg) ++ Qax (decide ((segs.length : Int) > 24)) 4 QbR) ++ Qax (marE (mars segs) != 0) (marE (mars segs)) QbR) ++ idxF segF 0 segs) ++ idxF (svF ps.length segs.length) 0 svs)) := by
 have hpl := QtC ps jg
 have h4 := Qyl lb 0 jj jb jd jg ja jf je jh jc F.isEmpty (F.map fauE) (QaS (QaG ps jg)) ((QaG ps jg).isEmpty, (QaG ps jg).map fauE) segs h6 hs hsok svs h9 hl hok ((F ++ QaG ps jg) ++ Qax (decide ((segs.length : Int) > 24)) 4 QbR) (by
  have := Qa4 (decide ((segs.length : Int) > 24)) 4 QbR
  simp only [List.length_append]; omega)
 subst h3; subst h6
 rw [List.length_map, List.length_map] at h4
 refine Evt.imp2 (Qo9 lb jb ps jg (by omega) hpok) h4 fun n c1 h => ?_
 rw [QlA]
 refine stO _ c1 (stO _ rfl (stC (by simp [fauE]) (stC (Qb6 (by simp; omega)) ?_)))
 have e0 : ∀ a b : List Fau, (a.isEmpty && (b.map fauE).isEmpty) = (a ++ b).isEmpty := fun a b => by cases a <;> cases b <;> rfl
 have e1 := e0 F (QaG ps jg)
 have e2 : F.map fauE ++ (QaG ps jg).map fauE = (F ++ QaG ps jg).map fauE := by simp
 show (bif decide ((((segs.map sgE).length : Nat) : Int) > 24) then chkO (room ((F.map fauE ++ (QaG ps jg).map fauE).length + 1) 24) (Qb3 lb n jj jb (ps.map peE) jg ja (segs.map sgE) je jh jc F.isEmpty (F.map fauE) (QaS (QaG ps jg)) ((QaG ps jg).isEmpty, (QaG ps jg).map fauE) ((F.isEmpty && ((QaG ps jg).map fauE).isEmpty) && false) ((F.map fauE ++ (QaG ps jg).map fauE) ++ [[CV.int .i64 4, CV.str QbR]])) else Qb3 lb n jj jb (ps.map peE) jg ja (segs.map sgE) je jh jc F.isEmpty (F.map fauE) (QaS (QaG ps jg)) ((QaG ps jg).isEmpty, (QaG ps jg).map fauE) (F.isEmpty && ((QaG ps jg).map fauE).isEmpty) (F.map fauE ++ (QaG ps jg).map fauE)) = _
 rw [e1, e2, List.length_map]
 exact (acc (decide ((segs.length : Int) > 24)) (F ++ QaG ps jg) 4 QbR (by rw [List.length_append]; omega) (fun b l => Qb3 lb n jj jb (ps.map peE) jg ja (segs.map sgE) je jh jc F.isEmpty (F.map fauE) (QaS (QaG ps jg)) ((QaG ps jg).isEmpty, (QaG ps jg).map fauE) b l)).trans h
theorem Qe9 (loc : Bs) (pn : Bool) (ps : List Pe) (g : Int) (bn : Bool) (l : List Sg) (rn : Bool) (svs : List Sv) (lim : Int) (hloc : loc.length ≤ 281474976710656) (hps : ps.length ≤ 1000) (hpok : ∀ p ∈ ps, PeOk p) (hs : l.length ≤ 1000) (hsok : ∀ s ∈ l, s.car.length ≤ 281474976710656 ∧ s.fr.length ≤ 281474976710656 ∧ s.to.length ≤ 281474976710656) (hl : svs.length ≤ 100000) (hok : ∀ x ∈ svs, x.cd.length ≤ 281474976710656) :
  Ret lb Qab [.agg [.str loc, .list pn (ps.map peE), .int .i64 g, .list bn (l.map sgE), .list rn (svs.map svE), .int .i64 lim]] (QaS (Qi4 loc ps g l svs lim)) := by
 have h1 : ∀ F : List Fau, F.length ≤ 9 → Evt fun n => booking_Check_J1 lb n loc pn (ps.map peE) g bn (l.map sgE) rn (svs.map svE) lim F.isEmpty (F.map fauE) = some (QaS ((((((F ++ Qax (Qfi lim) 13 QeJ) ++ QaG ps g) ++ Qax (decide ((l.length : Int) > 24)) 4 QbR) ++ Qax (marE (mars l) != 0) (marE (mars l)) QbR) ++ idxF segF 0 l) ++ idxF (svF ps.length l.length) 0 svs)) := fun F hF => by
  refine (Qyd lb 0 loc pn (ps.map peE) g bn (l.map sgE) rn (svs.map svE) lim ps rfl hps hpok l rfl hs hsok svs rfl hl hok (F ++ Qax (Qfi lim) 13 QeJ) (by
   have := Qa4 (Qfi lim) 13 QeJ
   rw [List.length_append]; omega)).mono fun n h => ?_
  have hT := accT F 13 QeJ (by omega) (fun b m => Qb1 lb n loc pn (ps.map peE) g bn (l.map sgE) rn (svs.map svE) lim b m)
  have hN := accF F 13 QeJ (fun b m => Qb1 lb n loc pn (ps.map peE) g bn (l.map sgE) rn (svs.map svE) lim b m)
  rw [QlF]
  unfold Qfi at h ⊢
  cases h0 : decide (lim < 0) with
  | true => rw [h0] at h; exact stT rfl (hT.trans h)
  | false =>
   rw [h0] at h
   refine stF rfl ?_
   cases h9 : decide (lim ≥ 52596000) with
   | true => rw [h9] at h; exact stT rfl (hT.trans h)
   | false => rw [h9] at h; exact stF rfl (hN.trans h)
 refine .top rfl (Evt.imp2 (QnR lb loc hloc) (h1 (Qax (!Qa1 loc 6 6) 5 QiK) (by have := Qa4 (!Qa1 loc 6 6) 5 QiK; omega)) fun n c h => ?_)
 rw [QnY]
 refine stO _ c (stO _ (Qau _) ?_)
 unfold Qi4
 cases hc : Qa1 loc 6 6 with
 | true => rw [hc] at h; exact stF rfl h
 | false => rw [hc] at h; exact stT rfl h
end Go.Proofs
