/- Chapter 35: bookings on plain data: segments, their marriages. Conditions: as each says. -/
import Derived.Test.YtigmcfhmpcajlaaGreatDoorBA
import Derived.Test.YtigmcfhmpcajlaaGreatDoorRA
import Derived.Test.YtigmcfhmpcajlaaGreatDoorGb
import Derived.Test.YtigmcfhmpcajlaaGreatDoorGc
set_option linter.unusedSimpArgs false
set_option linter.unusedVariables false
namespace Go.Proofs
open Go.Am
variable (lb : Nat)
structure Sg where
 car : Bs
 num : Int
 day : Int
 fr : Bs
 to : Bs
 dep : Int
 arr : Int
 cls : Bs
 st : Int
 mar : Int
def sgE (s : Sg) : List CV := [.str s.car, .int .i64 s.num, .int .i64 s.day, .str s.fr, .str s.to, .int .i64 s.dep, .int .i64 s.arr, .str s.cls, .int .i64 s.st, .int .i64 s.mar]
def mars (l : List Sg) : List Int := l.map Sg.mar
theorem QsA (bn : Bool) (l : List Sg) (hl : l.length ≤ 1000000) : Ret lb Qa2 [.list bn (l.map sgE)] (.list false ((mars l).map icv)) :=
 .top rfl ((Evt.diag (QcT (enc := sgE) (l := l) (P := fun p t n k => Qdw lb n k bn (l.map sgE) ((mars p).map icv) (p.length : Int) = some (.list false ((mars l).map icv))) (by omega)
  (.all fun n k => by
   rw [Qe2]
   refine stF (decF (by simp)) ?_
   rw [QjU])
  (fun p x t h h1 h2 h3 ih => ih.mono fun n hi k hk => by
   have hpl : p.length + (t.length + 1) = l.length := by rw [← h]; simp
   rw [Qe2]
   refine stT (decT h1) (stO _ h2 (stC rfl (stO _ rfl (stO _ rfl (stO _ rfl (stO _ rfl (stO _ rfl (stO _ rfl (stO _ rfl (stO _ rfl (stO _ rfl (stO _ rfl (stC rfl (stC ?_ ?_))))))))))))))
   ·simp [room, mars]; omega
   ·rw [h3]
    have := hi k hk
    simpa [mars, icv] using this) l [] rfl)).mono fun n h => by
   rw [QlB]
   refine stC ?_ h
   simp; omega)
end Go.Proofs
set_option linter.unusedSimpArgs false
set_option linter.unusedVariables false
namespace Go.Proofs
open Go.Am
variable (lb : Nat)
def stOk (x : Int) : Bool := decide (1 ≤ x ∧ x ≤ 7)
def stWords : Bs := [72, 75, 72, 76, 75, 76, 84, 75, 85, 78, 85, 67, 88, 88]
def Qb8 (x : Int) : Bs := (stWords.take (2 * x).toNat).drop (2 * x - 2).toNat
def QgK (x : Int) : CV := bif stOk x then .tup [.str (Qb8 x), .int .i64 0] else .tup [.str [], .int .i64 8]
theorem Qka (x : Int) : Ret lb Qgk [.int .i64 x] (QgK x) :=
 .top rfl (.all fun n => by
  rw [QrD]
  unfold QgK
  by_cases h1 : x < 1
  ·have : stOk x = false := by simp [stOk]; omega
   rw [this]
   exact stT (decT h1) rfl
  ·by_cases h2 : x > 7
   ·have : stOk x = false := by simp [stOk]; omega
    rw [this]
    exact stF (decF h1) (stT (decT h2) rfl)
   ·have : stOk x = true := by simp [stOk]; omega
    have hw : IntKind.wrap .i64 (2 * x) = 2 * x := QaN (by omega) (by omega)
    have hw2 : IntKind.wrap .i64 (2 * x - 2) = 2 * x - 2 := QaN (by omega) (by omega)
    rw [this, hw, hw2]
    exact stF (decF h1) (stF (decF h2) (stC (decT (by omega)) (stC (decT (by omega)) rfl))))
def QcY (s : Sg) : Bool := QgA s.car && (Qdl s.fr && Qdl s.to)
def Qd3 (s : Sg) : Bool := decide (0 ≤ s.dep ∧ s.dep < s.arr ∧ s.arr < 52596000)
def Qbi (b : Bool) (e : Int) : List Int := bif b then [] else [e]
def QcJ (s : Sg) : List Int := ((Qbi (QcY s) 5 ++ Qbi (Qd3 s) 13) ++ Qbi (Qdq s.cls) 16) ++ Qbi (stOk s.st) 10
def errV (l : List Int) : CV := .list l.isEmpty (l.map icv)
theorem Qh0 {l : List Int} (h : l.length ≤ 8) : room ((l.map icv).length + 1) 8 = true := Qbg (by simp; omega)
theorem Qji (l : List Int) (e : Int) : l.map icv ++ [[CV.int .i64 e]] = (l ++ [e]).map icv := by simp [icv]
theorem Qjj (l : List Int) (e : Int) : (l.isEmpty && false) = (l ++ [e]).isEmpty := by simp
theorem QAq (s : Sg) (l : List Int) (hl : l.length ≤ 3) : Evt fun n => QfO lb n s.car s.num s.day s.fr s.to s.dep s.arr s.cls s.st s.mar l.isEmpty (l.map icv) = some (errV (l ++ Qbi (stOk s.st) 10)) :=
 (Qka lb s.st).mono fun n h => by
  rw [Qn1]
  refine stO _ h ?_
  unfold QgK
  cases stOk s.st with
  | true =>
   refine stO _ rfl (stO _ rfl (stO _ rfl (stO _ rfl (stO _ rfl (stF rfl ?_)))))
   show _ = some (errV (l ++ []))
   rw [List.append_nil]; rfl
  | false =>
   refine stO _ rfl (stO _ rfl (stO _ rfl (stO _ rfl (stO _ rfl (stT rfl (stC (Qh0 (by omega)) ?_))))))
   rw [Qji, Qjj l 10]; rfl
theorem QAx (s : Sg) (l : List Int) (hl : l.length ≤ 2) : Evt fun n => QdH lb n s.car s.num s.day s.fr s.to s.dep s.arr s.cls s.st s.mar l.isEmpty (l.map icv) = some (errV ((l ++ Qbi (Qdq s.cls) 16) ++ Qbi (stOk s.st) 10)) := by
 refine Evt.imp2 (Qq6 lb s.cls) (QAq lb s (l ++ Qbi (Qdq s.cls) 16) (by unfold Qbi; cases Qdq s.cls <;> simp <;> omega)) fun n h h3 => ?_
 rw [Qoc]
 refine stO _ h (stO _ (QaU _) ?_)
 cases hc : Qdq s.cls with
 | true =>
  rw [hc] at h3
  refine stF rfl ?_
  have e : l ++ Qbi true 16 = l := List.append_nil l
  rw [e] at h3 ⊢
  exact h3
 | false =>
  rw [hc] at h3
  refine stT rfl (stC (Qh0 (by omega)) ?_)
  rw [Qji, Qjj l 16]
  exact h3
theorem QAE (s : Sg) (l : List Int) (hl : l.length ≤ 1) : Evt fun n => QdC lb n s.car s.num s.day s.fr s.to s.dep s.arr s.cls s.st s.mar l.isEmpty (l.map icv) = some (errV (((l ++ Qbi (Qd3 s) 13) ++ Qbi (Qdq s.cls) 16) ++ Qbi (stOk s.st) 10)) := by
 refine (QAx lb s (l ++ Qbi (Qd3 s) 13) (by unfold Qbi; cases Qd3 s <;> simp <;> omega)).mono fun n h => ?_
 rw [Qod]
 cases ht : Qd3 s with
 | true =>
  rw [ht] at h
  have e : l ++ Qbi true 13 = l := List.append_nil l
  rw [e] at h ⊢
  simp only [Qd3, decide_eq_true_eq] at ht
  exact stF (decF (by omega)) (stF (decF (by omega)) (stF (decF (by omega)) h))
 | false =>
  rw [ht] at h
  simp only [Qd3, decide_eq_false_iff_not] at ht
  rw [Qji, Qjj l 13]
  by_cases h1 : s.dep < 0
  ·exact stT (decT h1) (stC (Qh0 (by omega)) h)
  ·by_cases h2 : s.dep ≥ s.arr
   ·exact stF (decF h1) (stT (decT h2) (stC (Qh0 (by omega)) h))
   ·exact stF (decF h1) (stF (decF h2) (stT (decT (by omega)) (stC (Qh0 (by omega)) h)))
theorem Qz0 (s : Sg) (h1 : s.car.length ≤ 281474976710656) (h2 : s.fr.length ≤ 281474976710656) (h3 : s.to.length ≤ 281474976710656) : Ret lb Qbs [.agg (sgE s)] (errV (QcJ s)) := by
 refine .top rfl (Evt.imp2 (Evt.imp2 (QoT lb s.car h1) (Evt.imp2 (QjG lb s.fr h2) (QjG lb s.to h3) fun n a b => (⟨a, b⟩ : _ ∧ _)) fun n a b => (⟨a, b⟩ : _ ∧ _)) (QAE lb s (Qbi (QcY s) 5) (by unfold Qbi; cases QcY s <;> simp)) fun n ⟨c1, c2, c3⟩ h => ?_)
 rw [show top lb n Qbs [.agg (sgE s)] = _ from Qq7 lb n s.car s.num s.day s.fr s.to s.dep s.arr s.cls s.st s.mar]
 refine stO _ c1 (stO _ (QaU _) ?_)
 unfold QcJ
 cases k1 : QgA s.car with
 | false =>
  have : QcY s = false := by unfold QcY; rw [k1]; rfl
  rw [this] at h ⊢
  exact stT rfl h
 | true =>
  refine stF rfl (stO _ c2 (stO _ (QaU _) ?_))
  cases k2 : Qdl s.fr with
  | false =>
   have : QcY s = false := by unfold QcY; rw [k1, k2]; rfl
   rw [this] at h ⊢
   exact stT rfl h
  | true =>
   refine stF rfl (stO _ c3 (stO _ (QaU _) ?_))
   have : QcY s = Qdl s.to := by unfold QcY; rw [k1, k2]; rfl
   rw [this] at h ⊢
   cases k3 : Qdl s.to with
   | false => rw [k3] at h; exact stT rfl h
   | true => rw [k3] at h; exact stF rfl h
end Go.Proofs
set_option linter.unusedSimpArgs false
set_option linter.unusedVariables false
namespace Go.Proofs
open Go.Am
variable (lb : Nat)
structure Pe where
 la : Bs
 fi : Bs
 ty : Bs
def peE (p : Pe) : List CV := [.str p.la, .str p.fi, .str p.ty]
def PeOk (p : Pe) : Prop := p.la.length ≤ 281474976710656 ∧ p.fi.length ≤ 281474976710656 ∧ p.ty.length ≤ 281474976710656
def infB (p : Pe) : Bool := p.ty == [73, 78, 70]
def aduB (p : Pe) : Bool := !infB p && !(p.ty == [67, 72, 68])
def QbP (p : Pe) : Bool := Qgm p.la && Qgm p.fi
def Qb9 (p : Pe) : Bool := Qb7 p.ty 3 3
def Qct : Int → List Pe → Int
 | n, [] => n
 | n, p :: t => Qct ((n + (bif infB p then 1 else 0)) - (bif aduB p then 1 else 0)) t
theorem QlZ (s : Bs) : Ret lb QbH [.str s] (.bool (Qgm s)) := by
 by_cases h : s.length ≤ 30
 ·exact QsV lb s (by omega)
 ·refine .top rfl (.all fun n => ?_)
  rw [Qnd]
  have : Qgm s = false := by unfold Qgm; simp [h]
  rw [this]
  exact stT (decT (by omega)) rfl
theorem Qse (p : Pe) (h : PeOk p) : Ret lb QeJ [.agg (peE p)] (.bool (QbP p)) :=
 .top rfl (Evt.imp2 (QlZ lb p.la) (QlZ lb p.fi) fun n h1 h2 => by
  rw [show top lb n QeJ [.agg (peE p)] = _ from QqZ lb n p.la p.fi p.ty]
  refine stO _ h1 (stO _ (QaU _) ?_)
  unfold QbP
  cases Qgm p.la with
  | true => exact stT rfl (stO _ h2 rfl)
  | false => exact stF rfl rfl)
theorem QrT (p : Pe) (h : PeOk p) : Ret lb Qdm [.agg (peE p)] (.bool (Qb9 p)) :=
 .top rfl ((Qgf lb p.ty 3 3 (by have := h.2.2; omega)).mono fun n h1 => by
  rw [show top lb n Qdm [.agg (peE p)] = _ from QrC lb n p.la p.fi p.ty]
  exact stO _ h1 rfl)
theorem QpW (p : Pe) : Ret lb Qek [.agg (peE p)] (.bool (infB p)) :=
 .top rfl (.all fun n => by
  rw [show top lb n Qek [.agg (peE p)] = _ from QpL lb n p.la p.fi p.ty]
  rfl)
theorem QwI (p : Pe) : Ret lb QeN [.agg (peE p)] (.bool (aduB p)) :=
 .top rfl ((QpW lb p).mono fun n h => by
  rw [show top lb n QeN [.agg (peE p)] = _ from Qq2 lb n p.la p.fi p.ty]
  refine stO _ h (stO _ (QaU _) ?_)
  unfold aduB
  cases infB p with
  | true => exact stF rfl rfl
  | false => exact stT rfl rfl)
theorem Qt4 (bn : Bool) (l : List Pe) (hl : l.length ≤ 1000000) : ∀ (t u : List Pe) (m : Int), u ++ t = l → -(u.length : Int) ≤ m → m ≤ (u.length : Int) → Evt fun n => ∀ k, t.length < k → Qc0 lb n k bn (l.map peE) m (u.length : Int) = some (.bool (decide (Qct m t > 0)))
 | [], u, m, h, _, _ => .all fun n k hk => by
  obtain ⟨k, rfl⟩ : ∃ j, k = j + 1 := ⟨k - 1, by simp at hk; omega⟩
  have hu : u = l := by simpa using h
  rw [Qhs, hu]
  refine stF (decF (by simp)) ?_
  rw [Qoa]; rfl
 | p :: t, u, m, h, m0, m1 => by
  have hul : u.length + (t.length + 1) = l.length := by rw [← h]; simp
  have hw : IntKind.wrap .i64 ((u.length : Int) + 1) = ((u ++ [p]).length : Int) := by rw [QaN (by omega) (by omega)]; simp
  have hat : atL (l.map peE) (u.length : Int) = some (peE p) := Qcv (by rw [List.getElem?_map, ← h]; simp)
  have w1 : IntKind.wrap .i64 (m + 1) = m + 1 := QaN (by omega) (by omega)
  have w2 : IntKind.wrap .i64 (m - 1) = m - 1 := QaN (by omega) (by omega)
  have w3 : IntKind.wrap .i64 (m + 1 - 1) = m := by rw [QaN (by omega) (by omega)]; omega
  have hex : infB p = true → aduB p = false := fun hi => by unfold aduB; rw [hi]; rfl
  refine Evt.imp2 (Evt.imp2 (QpW lb p) (QwI lb p) fun n a b => (⟨a, b⟩ : _ ∧ _)) (Qt4 bn l hl t (u ++ [p]) ((m + (bif infB p then 1 else 0)) - (bif aduB p then 1 else 0)) (by rw [← h]; simp)
   (by simp; cases infB p <;> cases aduB p <;> simp <;> omega) (by simp; cases infB p <;> cases aduB p <;> simp <;> omega)) fun n ⟨h1, h2⟩ hi k hk => ?_
  obtain ⟨k, rfl⟩ : ∃ j, k = j + 1 := ⟨k - 1, by simp at hk; omega⟩
  have hi := hi k (by simp at hk; omega)
  rw [Qhs]
  unfold Qct
  refine stT (decT (by simp; omega)) (stO _ hat (stC rfl (stO _ rfl (stO _ rfl (stO _ rfl (stO _ h1 (stO _ (QaU _) ?_)))))))
  cases hI : infB p with
  | true =>
   have hA := hex hI
   rw [hA] at h2
   rw [hI, hA] at hi
   rw [hA]
   refine stT rfl (stO _ h2 (stO _ (QaU _) (stF rfl ?_)))
   rw [w1, hw]
   simpa using hi
  | false =>
   refine stF rfl (stO _ h2 (stO _ (QaU _) ?_))
   cases hA : aduB p with
   | true =>
    rw [hI, hA] at hi
    refine stT rfl ?_
    rw [w2, hw]
    simpa using hi
   | false =>
    rw [hI, hA] at hi
    refine stF rfl ?_
    rw [hw]
    simpa using hi
theorem Qsu (bn : Bool) (l : List Pe) (hl : l.length ≤ 1000000) : Ret lb Qay [.list bn (l.map peE)] (.bool (decide (Qct 0 l > 0))) :=
 .top rfl ((Evt.diag (Qt4 lb bn l hl l [] 0 rfl (by simp) (by simp))).mono fun n h => by rw [QrJ]; exact h)
end Go.Proofs
set_option linter.unusedSimpArgs false
set_option linter.unusedVariables false
namespace Go.Proofs
open Go.Am
variable (lb : Nat)
abbrev Fau := Int × Bs
def fauE (f : Fau) : List CV := [.int .i64 f.1, .str f.2]
def QaY (l : List Fau) : CV := .list l.isEmpty (l.map fauE)
def Qat (b : Bool) (e : Int) (at' : Bs) : List Fau := bif b then [(e, at')] else []
def Qa1 : Bs := [112, 97, 114, 116, 121]
theorem QeR (l : List Fau) (e : Int) (s : Bs) : l.map fauE ++ [[CV.int .i64 e, CV.str s]] = (l ++ [(e, s)]).map fauE := by simp [fauE]
theorem QeX (l : List Fau) (x : Fau) : (l.isEmpty && false) = (l ++ [x]).isEmpty := by simp
theorem Qf4 {l : List Fau} (h : l.length ≤ 1000000) : room ((l.map fauE).length + 1) 24 = true := Qbg (by simp; omega)
theorem acc (c : Bool) (l : List Fau) (e : Int) (s : Bs) (hl : l.length ≤ 999999) (J : Bool → List (List CV) → Option CV) :
  (bif c then chkO (room ((l.map fauE).length + 1) 24) (J (l.isEmpty && false) (l.map fauE ++ [[CV.int .i64 e, CV.str s]])) else J l.isEmpty (l.map fauE)) = J (l ++ Qat c e s).isEmpty ((l ++ Qat c e s).map fauE) := by
 cases c with
 | true =>
  refine stC (Qf4 (by omega)) ?_
  rw [QeR, QeX l (e, s)]; rfl
 | false =>
  show _ = J (l ++ []).isEmpty ((l ++ []).map fauE)
  rw [List.append_nil]; rfl
theorem Qbn (c : Bool) (e : Int) (s : Bs) : (Qat c e s).length ≤ 1 := by cases c <;> simp [Qat]
def idxF {α : Type} (f : Nat → α → List Fau) : Nat → List α → List Fau
 | _, [] => []
 | i, x :: t => f i x ++ idxF f (i + 1) t
theorem Qfq {α : Type} (f : Nat → α → List Fau) (x : α) : ∀ (l : List α) (i : Nat), idxF f i (l ++ [x]) = idxF f i l ++ f (i + l.length) x
 | [], i => by simp [idxF]
 | y :: l, i => by
  simp only [List.cons_append, idxF, Qfq f x l (i + 1), List.append_assoc, List.length_cons]
  rw [show i + 1 + l.length = i + (l.length + 1) by omega]
theorem Qfl {α : Type} {f : Nat → α → List Fau} {c : Nat} (h : ∀ i x, (f i x).length ≤ c) : ∀ (l : List α) (i : Nat), (idxF f i l).length ≤ c * l.length
 | [], i => by simp [idxF]
 | y :: l, i => by
  have := Qfl h l (i + 1)
  have := h i y
  simp only [idxF, List.length_append, List.length_cons, Nat.mul_add]
  omega
theorem QgP {n : Nat} {bn : Bool} {ps : List (List CV)} {a : Bool} (h : C lb n Qay [.list bn ps] = some (.bool a)) (l : List Fau) (hl : l.length ≤ 1000000) :
  (optO (C lb n Qay [.list bn ps]) fun r => optO (CV.asB r) fun b => bif b then (chkO (room ((l.map fauE).length + 1) 24) (some (.list (l.isEmpty && false) (l.map fauE ++ [[CV.int .i64 25, CV.str [112, 97, 114, 116, 121]]])))) else (some (.list l.isEmpty (l.map fauE)))) = some (QaY (l ++ Qat a 25 Qa1)) := by
 refine stO _ h (stO _ (QaU _) ?_)
 cases a with
 | true =>
  refine stT rfl (stC (Qf4 hl) ?_)
  rw [QeR, QeX l (25, [112, 97, 114, 116, 121])]; rfl
 | false =>
  refine stF rfl ?_
  show _ = some (QaY (l ++ []))
  rw [List.append_nil]; rfl
def QaZ (n g : Int) : Bool := decide (n + g = 0) || ((g == 0 && decide (n > 9)) || decide (n + g > 99))
theorem Qyv (bn : Bool) (ps : List Pe) (grp : Int) (l : List Fau) (g : Int) (hps : ps.length ≤ 1000000) (hl : l.length ≤ 999999) (g0 : 0 ≤ g) (g1 : g ≤ 99) :
  Evt fun n => QhO lb n bn (ps.map peE) grp l.isEmpty (l.map fauE) g = some (QaY ((l ++ Qat (QaZ ps.length g) 4 Qa1) ++ Qat (decide (Qct 0 ps > 0)) 25 Qa1)) :=
 (Qsu lb bn ps hps).mono fun n h => by
  have hlen : (((ps.map peE).length : Nat) : Int) = (ps.length : Int) := by simp
  have hw : IntKind.wrap .i64 ((ps.length : Int) + g) = (ps.length : Int) + g := QaN (by omega) (by omega)
  have bad : (chkO (room ((l.map fauE).length + 1) 24) (optO (C lb n Qay [.list bn (ps.map peE)]) fun r => optO (CV.asB r) fun b => bif b then (chkO (room ((l.map fauE ++ [[CV.int .i64 4, CV.str [112, 97, 114, 116, 121]]]).length + 1) 24) (some (.list ((l.isEmpty && false) && false) ((l.map fauE ++ [[CV.int .i64 4, CV.str [112, 97, 114, 116, 121]]]) ++ [[CV.int .i64 25, CV.str [112, 97, 114, 116, 121]]])))) else (some (.list (l.isEmpty && false) (l.map fauE ++ [[CV.int .i64 4, CV.str [112, 97, 114, 116, 121]]]))))) = some (QaY ((l ++ Qat true 4 Qa1) ++ Qat (decide (Qct 0 ps > 0)) 25 Qa1)) := by
   refine stC (Qf4 (by omega)) ?_
   rw [QeR, QeX l (4, [112, 97, 114, 116, 121])]
   exact QgP lb h (l ++ [(4, Qa1)]) (by simp; omega)
  have good : ∀ {r}, r = some (QaY (l ++ Qat (decide (Qct 0 ps > 0)) 25 Qa1)) → r = some (QaY ((l ++ Qat false 4 Qa1) ++ Qat (decide (Qct 0 ps > 0)) 25 Qa1)) := fun e => by
   rw [e]; show _ = some (QaY ((l ++ []) ++ _)); rw [List.append_nil]
  rw [Qof, hlen, hw]
  by_cases h0 : (ps.length : Int) + g = 0
  ·rw [show QaZ ps.length g = true by simp [QaZ, h0]]
   exact stT (beqT h0) bad
  refine stF (beqF h0) ?_
  by_cases hg : g = 0
  ·refine stT (beqT hg) ?_
   by_cases h9 : (ps.length : Int) > 9
   ·rw [show QaZ ps.length g = true by simp [QaZ, hg]; omega]
    exact stT (decT h9) bad
   refine stF (decF h9) ?_
   by_cases h99 : (ps.length : Int) + g > 99
   ·omega
   rw [show QaZ ps.length g = false by simp [QaZ]; omega]
   exact stF (decF h99) (good (QgP lb h l (by omega)))
  ·refine stF (beqF hg) ?_
   by_cases h99 : (ps.length : Int) + g > 99
   ·rw [show QaZ ps.length g = true by simp [QaZ]; omega]
    exact stT (decT h99) bad
   rw [show QaZ ps.length g = false by simp [QaZ]; omega]
   exact stF (decF h99) (good (QgP lb h l (by omega)))
theorem Qux (bn : Bool) (ps : List Pe) (grp : Int) (l : List Fau) (g : Int) (hps : ps.length ≤ 1000000) (hl : l.length ≤ 999999) (g0 : 0 ≤ g) (g1 : g ≤ 99) :
  Evt fun n => QfL lb n bn (ps.map peE) grp l.isEmpty (l.map fauE) g = some (QaY ((l ++ Qat (QaZ ps.length g) 4 Qa1) ++ Qat (decide (Qct 0 ps > 0)) 25 Qa1)) :=
 (Qsu lb bn ps hps).mono fun n h => by
  have hlen : (((ps.map peE).length : Nat) : Int) = (ps.length : Int) := by simp
  have hw : IntKind.wrap .i64 ((ps.length : Int) + g) = (ps.length : Int) + g := QaN (by omega) (by omega)
  have bad : (chkO (room ((l.map fauE).length + 1) 24) (optO (C lb n Qay [.list bn (ps.map peE)]) fun r => optO (CV.asB r) fun b => bif b then (chkO (room ((l.map fauE ++ [[CV.int .i64 4, CV.str [112, 97, 114, 116, 121]]]).length + 1) 24) (some (.list ((l.isEmpty && false) && false) ((l.map fauE ++ [[CV.int .i64 4, CV.str [112, 97, 114, 116, 121]]]) ++ [[CV.int .i64 25, CV.str [112, 97, 114, 116, 121]]])))) else (some (.list (l.isEmpty && false) (l.map fauE ++ [[CV.int .i64 4, CV.str [112, 97, 114, 116, 121]]]))))) = some (QaY ((l ++ Qat true 4 Qa1) ++ Qat (decide (Qct 0 ps > 0)) 25 Qa1)) := by
   refine stC (Qf4 (by omega)) ?_
   rw [QeR, QeX l (4, [112, 97, 114, 116, 121])]
   exact QgP lb h (l ++ [(4, Qa1)]) (by simp; omega)
  have good : ∀ {r}, r = some (QaY (l ++ Qat (decide (Qct 0 ps > 0)) 25 Qa1)) → r = some (QaY ((l ++ Qat false 4 Qa1) ++ Qat (decide (Qct 0 ps > 0)) 25 Qa1)) := fun e => by
   rw [e]; show _ = some (QaY ((l ++ []) ++ _)); rw [List.append_nil]
  rw [Qn3, hlen, hw]
  by_cases h0 : (ps.length : Int) + g = 0
  ·rw [show QaZ ps.length g = true by simp [QaZ, h0]]
   exact stT (beqT h0) bad
  refine stF (beqF h0) ?_
  by_cases hg : g = 0
  ·refine stT (beqT hg) ?_
   by_cases h9 : (ps.length : Int) > 9
   ·rw [show QaZ ps.length g = true by simp [QaZ, hg]; omega]
    exact stT (decT h9) bad
   refine stF (decF h9) ?_
   by_cases h99 : (ps.length : Int) + g > 99
   ·omega
   rw [show QaZ ps.length g = false by simp [QaZ]; omega]
   exact stF (decF h99) (good (QgP lb h l (by omega)))
  ·refine stF (beqF hg) ?_
   by_cases h99 : (ps.length : Int) + g > 99
   ·rw [show QaZ ps.length g = true by simp [QaZ]; omega]
    exact stT (decT h99) bad
   rw [show QaZ ps.length g = false by simp [QaZ]; omega]
   exact stF (decF h99) (good (QgP lb h l (by omega)))
def Qdp (g : Int) : Bool := decide (g < 0) || decide (g > 99)
def Qgp (ps : List Pe) (g : Int) : List Fau := Qat (Qdp g) 2 Qa1 ++ (Qat (QaZ ps.length (bif Qdp g then 0 else g)) 4 Qa1 ++ Qat (decide (Qct 0 ps > 0)) 25 Qa1)
theorem Qx7 (bn : Bool) (ps : List Pe) (grp : Int) (l : List Fau) (hps : ps.length ≤ 1000000) (hl : l.length ≤ 999998) :
  Evt fun n => QhA lb n bn (ps.map peE) grp l.isEmpty (l.map fauE) = some (QaY (l ++ Qgp ps grp)) := by
 unfold Qgp
 by_cases h0 : grp < 0
 ·have hb : Qdp grp = true := by simp [Qdp, h0]
  refine (Qyv lb bn ps grp (l ++ [(2, Qa1)]) 0 hps (by simp; omega) (by omega) (by omega)).mono fun n h => ?_
  rw [QfX]
  refine stT (decT h0) (stC (Qf4 (by omega)) ?_)
  rw [Qob, QeR, QeX l (2, [112, 97, 114, 116, 121]), hb]
  simpa [Qat, Qa1] using h
 by_cases h1 : grp > 99
 ·have hb : Qdp grp = true := by simp [Qdp, h1]
  refine (Qux lb bn ps grp (l ++ [(2, Qa1)]) 0 hps (by simp; omega) (by omega) (by omega)).mono fun n h => ?_
  rw [QfX]
  refine stF (decF h0) (stT (decT h1) (stC (Qf4 (by omega)) ?_))
  rw [QiO, QeR, QeX l (2, [112, 97, 114, 116, 121]), hb]
  refine stT (decT h1) ?_
  simpa [Qat, Qa1] using h
 ·have hb : Qdp grp = false := by simp [Qdp]; omega
  refine (Qux lb bn ps grp l grp hps (by omega) (by omega) (by omega)).mono fun n h => ?_
  rw [QfX]
  refine stF (decF h0) (stF (decF h1) ?_)
  rw [QiO, hb]
  refine stF (decF h1) ?_
  simpa [Qat] using h
def Qcg : Bs := [112, 101, 114, 115, 111, 110, 32]
def perF (i : Nat) (p : Pe) : List Fau := Qat (!QbP p) 5 (Qcg ++ Lib.itoa (i : Int)) ++ Qat (!Qb9 p) 8 (Qcg ++ Lib.itoa (i : Int))
theorem QoY (i : Nat) (p : Pe) : (perF i p).length ≤ 2 := by
 unfold perF
 have := Qbn (!QbP p) 5 (Qcg ++ Lib.itoa (i : Int))
 have := Qbn (!Qb9 p) 8 (Qcg ++ Lib.itoa (i : Int))
 rw [List.length_append]; omega
def QaE (ps : List Pe) (g : Int) : List Fau := idxF perF 0 ps ++ Qgp ps g
theorem Qpp (bn : Bool) (ps : List Pe) (grp : Int) (hps : ps.length ≤ 100000) (hok : ∀ p ∈ ps, PeOk p) : Ret lb QaK [.list bn (ps.map peE), .int .i64 grp] (QaY (QaE ps grp)) := by
 have hlen : ∀ l : List Pe, (idxF perF 0 l).length ≤ 2 * l.length := fun l => Qfl QoY l 0
 refine .top rfl ((Evt.diag (QcT (enc := peE) (l := ps) (P := fun p t n k => party_Check_L1 lb n k bn (ps.map peE) grp (p.length : Int) (idxF perF 0 p).isEmpty ((idxF perF 0 p).map fauE) = some (QaY (QaE ps grp))) (by omega)
  ((Qx7 lb bn ps grp (idxF perF 0 ps) (by omega) (by have := hlen ps; omega)).mono fun n h k => by
    rw [Qhr]
    exact stF (decF (by simp)) h)
  (fun p x t h h1 h2 h3 ih => by
   have hpl : p.length + (t.length + 1) = ps.length := by rw [← h]; simp
   have hx : PeOk x := hok x (by rw [← h]; simp)
   have hil := Qbb (z := (p.length : Int)) (by omega) (by omega)
   have hF := hlen p
   refine Evt.imp2 (Evt.imp2 (Qse lb x hx) (Evt.imp2 (QrT lb x hx) (Qbc lb (p.length : Int) (by omega) (by omega)) fun n a b => And.intro a b) fun n a b => And.intro a b) ih fun n ⟨c1, c2, c3⟩ hi k hk => ?_
   have hi := hi k hk
   rw [Qhr]
   refine stT (decT h1) (stO _ h2 (stC rfl (stO _ rfl (stO _ rfl (stO _ rfl (stO _ c3 (stO _ rfl (stC (decT (by simp; omega)) (stO _ c1 (stO _ (QaU _) ?_))))))))))
   rw [h3]
   rw [Qfq, Nat.zero_add] at hi
   rw [show perF p.length x = Qat (!QbP x) 5 (Qcg ++ Lib.itoa (p.length : Int)) ++ Qat (!Qb9 x) 8 (Qcg ++ Lib.itoa (p.length : Int)) from rfl] at hi
   rw [← List.append_assoc] at hi
   have step : ∀ l : List Fau, l.length ≤ 999999 → (optO (C lb n Qdm [.agg [.str x.la, .str x.fi, .str x.ty]]) fun r => optO (CV.asB r) fun b => bif (!b) then chkO (room ((l.map fauE).length + 1) 24) (party_Check_L1 lb n k bn (ps.map peE) grp ((p ++ [x]).length : Int) (l.isEmpty && false) (l.map fauE ++ [[CV.int .i64 8, CV.str (Qcg ++ Lib.itoa (p.length : Int))]])) else party_Check_L1 lb n k bn (ps.map peE) grp ((p ++ [x]).length : Int) l.isEmpty (l.map fauE)) = party_Check_L1 lb n k bn (ps.map peE) grp ((p ++ [x]).length : Int) (l ++ Qat (!Qb9 x) 8 (Qcg ++ Lib.itoa (p.length : Int))).isEmpty ((l ++ Qat (!Qb9 x) 8 (Qcg ++ Lib.itoa (p.length : Int))).map fauE) := fun l hl =>
    stO _ c2 (stO _ (QaU _) (acc (!Qb9 x) l 8 (Qcg ++ Lib.itoa (p.length : Int)) hl (fun b l => party_Check_L1 lb n k bn (ps.map peE) grp ((p ++ [x]).length : Int) b l)))
   cases hn : QbP x with
   | true =>
    refine stF rfl ((step _ (by omega)).trans ?_)
    rw [hn] at hi
    have e : idxF perF 0 p ++ Qat (!true) 5 (Qcg ++ Lib.itoa (p.length : Int)) = idxF perF 0 p := List.append_nil _
    rw [e] at hi
    exact hi
   | false =>
    rw [hn] at hi
    refine stT rfl (stC (Qf4 (by omega)) ?_)
    rw [QeR, QeX (idxF perF 0 p) (5, [112, 101, 114, 115, 111, 110, 32] ++ Lib.itoa (p.length : Int))]
    exact (step (idxF perF 0 p ++ [(5, Qcg ++ Lib.itoa (p.length : Int))]) (by simp; omega)).trans hi) ps [] rfl)).mono fun n h => by rw [Qru]; exact h)
end Go.Proofs
set_option linter.unusedSimpArgs false
set_option linter.unusedVariables false
namespace Go.Proofs
open Go.Am
variable (lb : Nat)
structure Sv where
 cd : Bs
 pe : Int
 sg : Int
def svE (x : Sv) : List CV := [.str x.cd, .int .i64 x.pe, .int .i64 x.sg]
def Qjt : Bs := [108, 111, 99, 97, 116, 111, 114]
def Qfe : Bs := [108, 105, 109, 105, 116]
def Qce : Bs := [115, 101, 103, 115]
def segS : Bs := [115, 101, 103, 32]
def QbG : Bs := [115, 101, 114, 118, 105, 99, 101, 32]
def Qhi (x : Int) : Bool := decide (x < 0) || decide (x ≥ 52596000)
def Qic (np ns : Int) (x : Sv) : Bool := decide (x.pe < 0) || (decide (x.pe ≥ np) || (decide (x.sg < 0) || decide (x.sg ≥ ns)))
def svF (np ns : Int) (i : Nat) (x : Sv) : List Fau := Qat (!Qb7 x.cd 4 4) 5 (QbG ++ Lib.itoa (i : Int)) ++ Qat (Qic np ns x) 7 (QbG ++ Lib.itoa (i : Int))
def segF (i : Nat) (s : Sg) : List Fau := (QcJ s).map fun e => (e, segS ++ Lib.itoa (i : Int))
def QnJ (loc : Bs) (ps : List Pe) (g : Int) (l : List Sg) (svs : List Sv) (lim : Int) : List Fau :=
 (((((Qat (!Qb7 loc 6 6) 5 Qjt ++ Qat (Qhi lim) 13 Qfe) ++ QaE ps g) ++ Qat (decide ((l.length : Int) > 24)) 4 Qce) ++ Qat (marE (mars l) != 0) (marE (mars l)) Qce) ++ idxF segF 0 l) ++ idxF (svF ps.length l.length) 0 svs
theorem accT (l : List Fau) (e : Int) (s : Bs) (hl : l.length ≤ 999999) (J : Bool → List (List CV) → Option CV) :
  chkO (room ((l.map fauE).length + 1) 24) (J (l.isEmpty && false) (l.map fauE ++ [[CV.int .i64 e, CV.str s]])) = J (l ++ Qat true e s).isEmpty ((l ++ Qat true e s).map fauE) := by
 refine stC (Qf4 (by omega)) ?_
 rw [QeR, QeX l (e, s)]; rfl
theorem accF (l : List Fau) (e : Int) (s : Bs) (J : Bool → List (List CV) → Option CV) : J l.isEmpty (l.map fauE) = J (l ++ Qat false e s).isEmpty ((l ++ Qat false e s).map fauE) := by
 show _ = J (l ++ []).isEmpty ((l ++ []).map fauE)
 rw [List.append_nil]
theorem Qvk (np ns : Int) (i : Nat) (x : Sv) : (svF np ns i x).length ≤ 2 := by
 unfold svF
 have := Qbn (!Qb7 x.cd 4 4) 5 (QbG ++ Lib.itoa (i : Int))
 have := Qbn (Qic np ns x) 7 (QbG ++ Lib.itoa (i : Int))
 rw [List.length_append]; omega
theorem Qj6 (b : Bool) (e : Int) : (Qbi b e).length ≤ 1 := by cases b <;> simp [Qbi]
theorem QgZ (s : Sg) : (QcJ s).length ≤ 4 := by
 unfold QcJ
 have := Qj6 (QcY s) 5
 have := Qj6 (Qd3 s) 13
 have := Qj6 (Qdq s.cls) 16
 have := Qj6 (stOk s.st) 10
 simp only [List.length_append]; omega
theorem QtF (i : Nat) (s : Sg) : (segF i s).length ≤ 4 := by unfold segF; rw [List.length_map]; exact QgZ s
theorem QAg (n yu : Nat) (jj : List UInt8) (ja : Bool) (jf : List (List CV)) (jg : Int) (jb : Bool) (je : List (List CV)) (jd : Bool) (jh : List (List CV)) (jc : Int) (jq : CV) (j8 : Int) (yr : List UInt8) (jp : Bool) (jn : List (List CV)) (jl : CV) (jo : Bool × List (List CV)) (js : CV) (y5 : List CV) (ye y8 y6 vl : CV) (x : Sv) (h7 : y8 = .int .i64 x.pe) (h8 : y6 = .int .i64 x.sg) (G : List Fau) (hG : G.length ≤ 999999) :
  Qdt lb n yu jj ja jf jg jb je jd jh jc jq j8 yr jp jn jl jo js y5 ye y8 y6 vl G.isEmpty (G.map fauE) = Qbk lb n yu jj ja jf jg jb je jd jh jc jq jp jn jl jo js (IntKind.wrap .i64 (j8 + 1)) (G ++ Qat (Qic jf.length je.length x) 7 (QbG ++ yr)).isEmpty ((G ++ Qat (Qic jf.length je.length x) 7 (QbG ++ yr)).map fauE) := by
 subst h7; subst h8
 have hT := accT G 7 (QbG ++ yr) hG (fun b l => Qbk lb n yu jj ja jf jg jb je jd jh jc jq jp jn jl jo js (IntKind.wrap .i64 (j8 + 1)) b l)
 have hF := accF G 7 (QbG ++ yr) (fun b l => Qbk lb n yu jj ja jf jg jb je jd jh jc jq jp jn jl jo js (IntKind.wrap .i64 (j8 + 1)) b l)
 rw [Qlp]
 unfold Qic
 refine stO _ (Qae ..) ?_
 cases decide (x.pe < 0) with
 | true => exact stT rfl hT
 | false =>
  refine stF rfl (stO _ (Qae ..) ?_)
  cases decide (x.pe ≥ (jf.length : Int)) with
  | true => exact stT rfl hT
  | false =>
   refine stF rfl (stO _ (Qae ..) ?_)
   cases decide (x.sg < 0) with
   | true => exact stT rfl hT
   | false =>
    refine stF rfl (stO _ (Qae ..) ?_)
    cases decide (x.sg ≥ (je.length : Int)) with
    | true => exact stT rfl hT
    | false => exact stF rfl hF
theorem QAO (n : Nat) (jj : List UInt8) (ja : Bool) (jf : List (List CV)) (jg : Int) (jb : Bool) (je : List (List CV)) (jd : Bool) (jh : List (List CV)) (jc : Int) (jq : CV) (jp : Bool) (jn : List (List CV)) (jl : CV) (jo : Bool × List (List CV)) (js : CV) (svs : List Sv) (h9 : jh = svs.map svE) (hl : svs.length ≤ 100000) (hok : ∀ x ∈ svs, x.cd.length ≤ 281474976710656) (F : List Fau) (hF : F.length ≤ 500000) :
  Evt fun n => Qgz lb n jj ja jf jg jb je jd jh jc jq jp jn jl jo js F.isEmpty (F.map fauE) = some (QaY (F ++ idxF (svF jf.length je.length) 0 svs)) := by
 subst h9
 have hlen : ∀ l : List Sv, (idxF (svF jf.length je.length) 0 l).length ≤ 2 * l.length := fun l => Qfl (Qvk _ _) l 0
 refine (Evt.diag (QcT (enc := svE) (l := svs) (P := fun p t n k => Qbk lb n k jj ja jf jg jb je jd (svs.map svE) jc jq jp jn jl jo js (p.length : Int) (F ++ idxF (svF jf.length je.length) 0 p).isEmpty ((F ++ idxF (svF jf.length je.length) 0 p).map fauE) = some (QaY (F ++ idxF (svF jf.length je.length) 0 svs))) (by omega)
  (.all fun n k => by
   rw [QgO]
   refine stF (decF (by simp)) ?_
   rw [QlH]
   rfl)
  (fun p x t h h1 h2 h3 ih => by
   have hpl : p.length + (t.length + 1) = svs.length := by rw [← h]; simp
   have hx := hok x (by rw [← h]; simp)
   have hil := Qbb (z := (p.length : Int)) (by omega) (by omega)
   have hP := hlen p
   refine Evt.imp2 (Evt.imp2 (Qgf lb x.cd 4 4 hx) (Qbc lb (p.length : Int) (by omega) (by omega)) fun n a b => And.intro a b) ih fun n ⟨c1, c2⟩ hi k hk => ?_
   have hi := hi k hk
   rw [QgO]
   refine stT (decT h1) (stO _ h2 (stC rfl (stO _ rfl (stO _ rfl (stO _ rfl (stO _ c2 (stO _ rfl (stC (decT (by simp; omega)) (stO _ c1 (stO _ (QaU _) ?_))))))))))
   refine (acc (!Qb7 x.cd 4 4) (F ++ idxF (svF jf.length je.length) 0 p) 5 (QbG ++ Lib.itoa (p.length : Int)) (by simp; omega) (fun b l => Qdt lb n k jj ja jf jg jb je jd (svs.map svE) jc jq (p.length : Int) (Lib.itoa (p.length : Int)) jp jn jl jo js (svE x) (.str x.cd) (.int .i64 x.pe) (.int .i64 x.sg) (.str (Lib.itoa (p.length : Int))) b l)).trans ?_
   refine (QAg (x := x) (h7 := rfl) (h8 := rfl) (hG := by
    have := Qbn (!Qb7 x.cd 4 4) 5 (QbG ++ Lib.itoa (p.length : Int))
    rw [List.length_append, List.length_append]; omega) ..).trans ?_
   rw [h3]
   rw [Qfq, Nat.zero_add] at hi
   rw [show svF jf.length je.length p.length x = Qat (!Qb7 x.cd 4 4) 5 (QbG ++ Lib.itoa (p.length : Int)) ++ Qat (Qic jf.length je.length x) 7 (QbG ++ Lib.itoa (p.length : Int)) from rfl] at hi
   simp only [List.append_assoc] at hi ⊢
   exact hi) svs [] rfl)).mono fun n h => by
   rw [Qmr]
   have e : F ++ idxF (svF jf.length je.length) 0 ([] : List Sv) = F := List.append_nil F
   rw [e] at h
   exact h
theorem QyK (n yI : Nat) (jj : List UInt8) (ja : Bool) (jf : List (List CV)) (jg : Int) (jb : Bool) (je : List (List CV)) (jd : Bool) (jh : List (List CV)) (jc : Int) (jq : CV) (wl : Int) (jp : Bool) (jn : List (List CV)) (jl : CV) (jo : Bool × List (List CV)) (js : CV) (yi : List CV) (wg wh wb wj jy jz w6 jC jB jA yS : CV) (y7 : Bool × List (List CV)) (m : Nat) (h59 : wl = (m : Int)) (hm : m ≤ 1000000) (er : List Int) (hr : yS = errV er) (hp : y7 = (er.isEmpty, er.map icv)) (her : er.length ≤ 10) (F : List Fau) (hF : F.length ≤ 900000) (hdec : C lb n Qba [.int .i64 wl] = some (.str (Lib.itoa (m : Int)))) : ∀ (t p : List Int), p ++ t = er → ∀ k, t.length < k →
  QdL lb n k yI jj ja jf jg jb je jd jh jc jq wl jp jn jl jo js yi wg wh wb wj jy jz w6 jC jB jA yS y7 (p.length : Int) (F ++ p.map fun e => (e, segS ++ Lib.itoa (m : Int))).isEmpty ((F ++ p.map fun e => (e, segS ++ Lib.itoa (m : Int))).map fauE) = QdV lb n yI jj ja jf jg jb je jd jh jc jq jp jn jl jo js (IntKind.wrap .i64 (wl + 1)) (F ++ er.map fun e => (e, segS ++ Lib.itoa (m : Int))).isEmpty ((F ++ er.map fun e => (e, segS ++ Lib.itoa (m : Int))).map fauE)
 | [], p, h, k, hk => by
  obtain ⟨k, rfl⟩ : ∃ j, k = j + 1 := ⟨k - 1, by simp at hk; omega⟩
  have hpe : p = er := by simpa using h
  subst hpe; subst hp
  rw [QgH]
  refine stF (decF (by simp)) ?_
  rw [Qms]
 | e :: t, p, h, k, hk => by
  obtain ⟨k, rfl⟩ : ∃ j, k = j + 1 := ⟨k - 1, by simp at hk; omega⟩
  have hpl : p.length + (t.length + 1) = er.length := by rw [← h]; simp
  have hil := Qbb (z := (m : Int)) (by omega) (by omega)
  have hw : IntKind.wrap .i64 ((p.length : Int) + 1) = ((p ++ [e]).length : Int) := by rw [QaN (by omega) (by omega)]; simp
  have hat : atL (er.map icv) (p.length : Int) = some (icv e) := Qcv (by rw [List.getElem?_map, ← h]; simp)
  have ih := QyK n yI jj ja jf jg jb je jd jh jc jq wl jp jn jl jo js yi wg wh wb wj jy jz w6 jC jB jA yS y7 m h59 hm er hr hp her F hF hdec t (p ++ [e]) (by rw [← h]; simp) k (by simp at hk; omega)
  have hFl : (F ++ p.map fun e => (e, segS ++ Lib.itoa (m : Int))).length ≤ 999999 := by rw [List.length_append, List.length_map]; omega
  subst hr; subst hp
  rw [QgH]
  refine stT (decT (by simp; omega)) (stO _ rfl (stO _ hat (stC rfl (stO _ rfl (stO _ hdec (stO _ rfl (stC (decT (by simp; omega)) (stC rfl ?_))))))))
  refine (accT (F ++ p.map fun e => (e, segS ++ Lib.itoa (m : Int))) e (segS ++ Lib.itoa (m : Int)) hFl (fun b l => QdL lb n k yI jj ja jf jg jb je jd jh jc jq wl jp jn jl jo js yi wg wh wb wj jy jz w6 jC jB jA (errV er) (er.isEmpty, er.map icv) (IntKind.wrap .i64 ((p.length : Int) + 1)) b l)).trans ?_
  rw [hw]
  rw [List.map_append, ← List.append_assoc] at ih
  exact ih
theorem QA0 (n : Nat) (jj : List UInt8) (ja : Bool) (jf : List (List CV)) (jg : Int) (jb : Bool) (je : List (List CV)) (jd : Bool) (jh : List (List CV)) (jc : Int) (jq : CV) (jp : Bool) (jn : List (List CV)) (jl : CV) (jo : Bool × List (List CV)) (js : CV) (segs : List Sg) (h6 : je = segs.map sgE) (hs : segs.length ≤ 1000) (hsok : ∀ s ∈ segs, s.car.length ≤ 281474976710656 ∧ s.fr.length ≤ 281474976710656 ∧ s.to.length ≤ 281474976710656) (svs : List Sv) (h9 : jh = svs.map svE) (hl : svs.length ≤ 100000) (hok : ∀ x ∈ svs, x.cd.length ≤ 281474976710656) (F : List Fau) (hF : F.length ≤ 400000) :
  Evt fun n => QdM lb n jj ja jf jg jb je jd jh jc jq jp jn jl jo js F.isEmpty (F.map fauE) = some (QaY ((F ++ idxF segF 0 segs) ++ idxF (svF jf.length je.length) 0 svs)) := by
 have hlen : ∀ l : List Sg, (idxF segF 0 l).length ≤ 4 * l.length := fun l => Qfl QtF l 0
 have h8 := QAO lb 0 jj ja jf jg jb je jd jh jc jq jp jn jl jo js svs h9 hl hok (F ++ idxF segF 0 segs) (by have := hlen segs; rw [List.length_append]; omega)
 subst h6
 refine (Evt.diag (QcT (enc := sgE) (l := segs) (P := fun p t n k => QdV lb n k jj ja jf jg jb (segs.map sgE) jd jh jc jq jp jn jl jo js (p.length : Int) (F ++ idxF segF 0 p).isEmpty ((F ++ idxF segF 0 p).map fauE) = some (QaY ((F ++ idxF segF 0 segs) ++ idxF (svF jf.length (segs.map sgE).length) 0 svs))) (by omega)
  (h8.mono fun n h k => by
   rw [QgI]
   exact stF (decF (by simp)) h)
  (fun p x t h h1 h2 h3 ih => by
   have hpl : p.length + (t.length + 1) = segs.length := by rw [← h]; simp
   have hx := hsok x (by rw [← h]; simp)
   have hP := hlen p
   refine Evt.imp2 (Evt.imp2 (Qz0 lb x hx.1 hx.2.1 hx.2.2) (Evt.imp2 (Qbc lb (p.length : Int) (by omega) (by omega)) (Evt.ge 6) fun n a b => And.intro a b) fun n a b => And.intro a b) ih fun n ⟨c1, c2, c3⟩ hi k hk => ?_
   have hi := hi k hk
   rw [QgI]
   refine stT (decT h1) (stO _ h2 (stC rfl (stO _ rfl (stO _ rfl (stO _ rfl (stO _ rfl (stO _ rfl (stO _ rfl (stO _ rfl (stO _ rfl (stO _ rfl (stO _ rfl (stO _ c1 (stO _ rfl ?_))))))))))))))
   have hL := QyK (lb := lb) (n := n) (yI := k) (m := p.length) (wl := (p.length : Int)) (h59 := rfl) (hm := by omega) (er := QcJ x) (yS := errV (QcJ x)) (y7 := ((QcJ x).isEmpty, (QcJ x).map icv)) (hr := rfl) (hp := rfl) (her := by have := QgZ x; omega) (F := F ++ idxF segF 0 p) (hF := by rw [List.length_append]; omega) (hdec := c2) (jj := jj) (ja := ja) (jf := jf) (jg := jg) (jb := jb) (je := segs.map sgE) (jd := jd) (jh := jh) (jc := jc) (jq := jq) (jp := jp) (jn := jn) (jl := jl) (jo := jo) (js := js) (yi := sgE x) (wg := .str x.car) (wh := .int .i64 x.num) (wb := .int .i64 x.day) (wj := .str x.fr) (jy := .str x.to) (jz := .int .i64 x.dep) (w6 := .int .i64 x.arr) (jC := .str x.cls) (jB := .int .i64 x.st) (jA := .int .i64 x.mar) (QcJ x) [] rfl n (by have := QgZ x; omega)
   rw [List.map_nil, List.append_nil, h3] at hL
   refine Eq.trans hL ?_
   rw [Qfq, Nat.zero_add] at hi
   rw [show segF p.length x = (QcJ x).map (fun e => (e, segS ++ Lib.itoa (p.length : Int))) from rfl] at hi
   rw [List.append_assoc]
   exact hi) segs [] rfl)).mono fun n h => by
   rw [Qmt]
   have e : F ++ idxF segF 0 ([] : List Sg) = F := List.append_nil F
   rw [e] at h
   exact h
theorem QuI (s : Bs) (hs : s.length ≤ 281474976710656) : Ret lb QfV [.str s] (.bool (Qb7 s 6 6)) :=
 .top rfl ((Qgf lb s 6 6 hs).mono fun n h => by
  rw [QnF]
  exact stO _ h rfl)
theorem Qvi (ps : List Pe) (g : Int) : (QaE ps g).length ≤ 2 * ps.length + 3 := by
 unfold QaE Qgp
 have := Qfl QoY ps 0
 have := Qbn (Qdp g) 2 Qa1
 have := Qbn (QaZ ps.length (bif Qdp g then 0 else g)) 4 Qa1
 have := Qbn (decide (Qct 0 ps > 0)) 25 Qa1
 simp only [List.length_append]; omega
theorem QA8 (n : Nat) (jj : List UInt8) (ja : Bool) (jf : List (List CV)) (jg : Int) (jb : Bool) (je : List (List CV)) (jd : Bool) (jh : List (List CV)) (jc : Int) (jp : Bool) (jn : List (List CV)) (jl : CV) (jo : Bool × List (List CV)) (segs : List Sg) (h6 : je = segs.map sgE) (hs : segs.length ≤ 1000) (hsok : ∀ s ∈ segs, s.car.length ≤ 281474976710656 ∧ s.fr.length ≤ 281474976710656 ∧ s.to.length ≤ 281474976710656) (svs : List Sv) (h9 : jh = svs.map svE) (hl : svs.length ≤ 100000) (hok : ∀ x ∈ svs, x.cd.length ≤ 281474976710656) (F : List Fau) (hF : F.length ≤ 300000) :
  Evt fun n => Qcq lb n jj ja jf jg jb je jd jh jc jp jn jl jo F.isEmpty (F.map fauE) = some (QaY (((F ++ Qat (marE (mars segs) != 0) (marE (mars segs)) Qce) ++ idxF segF 0 segs) ++ idxF (svF jf.length je.length) 0 svs)) := by
 have h4 := QA0 lb 0 jj ja jf jg jb je jd jh jc (.int .i64 (marE (mars segs))) jp jn jl jo (.list false ((mars segs).map icv)) segs h6 hs hsok svs h9 hl hok (F ++ Qat (marE (mars segs) != 0) (marE (mars segs)) Qce) (by
  have := Qbn (marE (mars segs) != 0) (marE (mars segs)) Qce
  rw [List.length_append]; omega)
 have hmm : (mars segs).length ≤ 1000 := by simpa [mars] using hs
 subst h6
 refine Evt.imp2 (Evt.imp2 (QsA lb jb segs (by omega)) (Qqc lb false (mars segs) (by omega)) fun n a b => And.intro a b) h4 fun n ⟨c1, c2⟩ h => ?_
 rw [Qmy]
 refine stO _ c1 (stO _ c2 (stO _ (Qae ..) ?_))
 exact (acc (marE (mars segs) != 0) F (marE (mars segs)) Qce (by omega) (fun b l => QdM lb n jj ja jf jg jb (segs.map sgE) jd jh jc (.int .i64 (marE (mars segs))) jp jn jl jo (.list false ((mars segs).map icv)) b l)).trans h
theorem QBd (n : Nat) (jj : List UInt8) (ja : Bool) (jf : List (List CV)) (jg : Int) (jb : Bool) (je : List (List CV)) (jd : Bool) (jh : List (List CV)) (jc : Int) (ps : List Pe) (h3 : jf = ps.map peE) (hps : ps.length ≤ 1000) (hpok : ∀ p ∈ ps, PeOk p) (segs : List Sg) (h6 : je = segs.map sgE) (hs : segs.length ≤ 1000) (hsok : ∀ s ∈ segs, s.car.length ≤ 281474976710656 ∧ s.fr.length ≤ 281474976710656 ∧ s.to.length ≤ 281474976710656) (svs : List Sv) (h9 : jh = svs.map svE) (hl : svs.length ≤ 100000) (hok : ∀ x ∈ svs, x.cd.length ≤ 281474976710656) (F : List Fau) (hF : F.length ≤ 10) :
  Evt fun n => Qcr lb n jj ja jf jg jb je jd jh jc F.isEmpty (F.map fauE) = some (QaY (((((F ++ QaE ps jg) ++ Qat (decide ((segs.length : Int) > 24)) 4 Qce) ++ Qat (marE (mars segs) != 0) (marE (mars segs)) Qce) ++ idxF segF 0 segs) ++ idxF (svF ps.length segs.length) 0 svs)) := by
 have hpl := Qvi ps jg
 have h4 := QA8 lb 0 jj ja jf jg jb je jd jh jc F.isEmpty (F.map fauE) (QaY (QaE ps jg)) ((QaE ps jg).isEmpty, (QaE ps jg).map fauE) segs h6 hs hsok svs h9 hl hok ((F ++ QaE ps jg) ++ Qat (decide ((segs.length : Int) > 24)) 4 Qce) (by
  have := Qbn (decide ((segs.length : Int) > 24)) 4 Qce
  simp only [List.length_append]; omega)
 subst h3; subst h6
 rw [List.length_map, List.length_map] at h4
 refine Evt.imp2 (Qpp lb ja ps jg (by omega) hpok) h4 fun n c1 h => ?_
 rw [Qmm]
 refine stO _ c1 (stO _ rfl (stC (by simp [fauE]) (stC (Qbg (by simp; omega)) ?_)))
 have e0 : ∀ a b : List Fau, (a.isEmpty && (b.map fauE).isEmpty) = (a ++ b).isEmpty := fun a b => by cases a <;> cases b <;> rfl
 have e1 := e0 F (QaE ps jg)
 have e2 : F.map fauE ++ (QaE ps jg).map fauE = (F ++ QaE ps jg).map fauE := by simp
 show (bif decide ((((segs.map sgE).length : Nat) : Int) > 24) then chkO (room ((F.map fauE ++ (QaE ps jg).map fauE).length + 1) 24) (Qcq lb n jj ja (ps.map peE) jg jb (segs.map sgE) jd jh jc F.isEmpty (F.map fauE) (QaY (QaE ps jg)) ((QaE ps jg).isEmpty, (QaE ps jg).map fauE) ((F.isEmpty && ((QaE ps jg).map fauE).isEmpty) && false) ((F.map fauE ++ (QaE ps jg).map fauE) ++ [[CV.int .i64 4, CV.str Qce]])) else Qcq lb n jj ja (ps.map peE) jg jb (segs.map sgE) jd jh jc F.isEmpty (F.map fauE) (QaY (QaE ps jg)) ((QaE ps jg).isEmpty, (QaE ps jg).map fauE) (F.isEmpty && ((QaE ps jg).map fauE).isEmpty) (F.map fauE ++ (QaE ps jg).map fauE)) = _
 rw [e1, e2, List.length_map]
 exact (acc (decide ((segs.length : Int) > 24)) (F ++ QaE ps jg) 4 Qce (by rw [List.length_append]; omega) (fun b l => Qcq lb n jj ja (ps.map peE) jg jb (segs.map sgE) jd jh jc F.isEmpty (F.map fauE) (QaY (QaE ps jg)) ((QaE ps jg).isEmpty, (QaE ps jg).map fauE) b l)).trans h
theorem Qoh (loc : Bs) (pn : Bool) (ps : List Pe) (g : Int) (bn : Bool) (l : List Sg) (rn : Bool) (svs : List Sv) (lim : Int) (hloc : loc.length ≤ 281474976710656) (hps : ps.length ≤ 1000) (hpok : ∀ p ∈ ps, PeOk p) (hs : l.length ≤ 1000) (hsok : ∀ s ∈ l, s.car.length ≤ 281474976710656 ∧ s.fr.length ≤ 281474976710656 ∧ s.to.length ≤ 281474976710656) (hl : svs.length ≤ 100000) (hok : ∀ x ∈ svs, x.cd.length ≤ 281474976710656) :
  Ret lb Qaa [.agg [.str loc, .list pn (ps.map peE), .int .i64 g, .list bn (l.map sgE), .list rn (svs.map svE), .int .i64 lim]] (QaY (QnJ loc ps g l svs lim)) := by
 have h1 : ∀ F : List Fau, F.length ≤ 9 → Evt fun n => booking_Check_J1 lb n loc pn (ps.map peE) g bn (l.map sgE) rn (svs.map svE) lim F.isEmpty (F.map fauE) = some (QaY ((((((F ++ Qat (Qhi lim) 13 Qfe) ++ QaE ps g) ++ Qat (decide ((l.length : Int) > 24)) 4 Qce) ++ Qat (marE (mars l) != 0) (marE (mars l)) Qce) ++ idxF segF 0 l) ++ idxF (svF ps.length l.length) 0 svs)) := fun F hF => by
  refine (QBd lb 0 loc pn (ps.map peE) g bn (l.map sgE) rn (svs.map svE) lim ps rfl hps hpok l rfl hs hsok svs rfl hl hok (F ++ Qat (Qhi lim) 13 Qfe) (by
   have := Qbn (Qhi lim) 13 Qfe
   rw [List.length_append]; omega)).mono fun n h => ?_
  have hT := accT F 13 Qfe (by omega) (fun b m => Qcr lb n loc pn (ps.map peE) g bn (l.map sgE) rn (svs.map svE) lim b m)
  have hN := accF F 13 Qfe (fun b m => Qcr lb n loc pn (ps.map peE) g bn (l.map sgE) rn (svs.map svE) lim b m)
  rw [Qmp]
  unfold Qhi at h ⊢
  cases h0 : decide (lim < 0) with
  | true => rw [h0] at h; exact stT rfl (hT.trans h)
  | false =>
   rw [h0] at h
   refine stF rfl ?_
   cases h9 : decide (lim ≥ 52596000) with
   | true => rw [h9] at h; exact stT rfl (hT.trans h)
   | false => rw [h9] at h; exact stF rfl (hN.trans h)
 refine .top rfl (Evt.imp2 (QuI lb loc hloc) (h1 (Qat (!Qb7 loc 6 6) 5 Qjt) (by have := Qbn (!Qb7 loc 6 6) 5 Qjt; omega)) fun n c h => ?_)
 rw [QoW]
 refine stO _ c (stO _ (QaU _) ?_)
 unfold QnJ
 cases hc : Qb7 loc 6 6 with
 | true => rw [hc] at h; exact stF rfl h
 | false => rw [hc] at h; exact stT rfl h
end Go.Proofs
