/- Chapter 35: bookings on plain data: segments, their marriages. Conditions: as each says. -/
import Derived.Test.YtigmcfhmpcajlaaGreatDoorBA
import Derived.Test.YtigmcfhmpcajlaaGreatDoorRA
import Derived.Test.YtigmcfhmpcajlaaGreatDoorGb
import Derived.Test.YtigmcfhmpcajlaaGreatDoorGc
set_option linter.unusedSimpArgs false
set_option linter.unusedVariables false
namespace Go.Proofs
open Go.Am
variable (lb : Nat)
structure Sg where
 car : Bs
 num : Int
 day : Int
 fr : Bs
 to : Bs
 dep : Int
 arr : Int
 cls : Bs
 st : Int
 mar : Int
def sgE (s : Sg) : List CV := [.str s.car, .int .i64 s.num, .int .i64 s.day, .str s.fr, .str s.to, .int .i64 s.dep, .int .i64 s.arr, .str s.cls, .int .i64 s.st, .int .i64 s.mar]
def mars (l : List Sg) : List Int := l.map Sg.mar
theorem Qlp (bn : Bool) (l : List Sg) (hl : l.length ≤ 1000000) : Ret lb QaQ [.list bn (l.map sgE)] (.list false ((mars l).map icv)) :=
 .top rfl ((Evt.diag (Qea (enc := sgE) (l := l) (P := fun p t n k => Qc8 lb n k bn (l.map sgE) ((mars p).map icv) (p.length : Int) = some (.list false ((mars l).map icv))) (by omega)
  (.all fun n k => by
   rw [QeF]
   refine stF (decF (by simp)) ?_
   rw [Qi5])
  (fun p x t h h1 h2 h3 ih => ih.mono fun n hi k hk => by
   have hpl : p.length + (t.length + 1) = l.length := by rw [← h]; simp
   rw [QeF]
   refine stT (decT h1) (stO _ h2 (stC rfl (stO _ rfl (stO _ rfl (stO _ rfl (stO _ rfl (stO _ rfl (stO _ rfl (stO _ rfl (stO _ rfl (stO _ rfl (stO _ rfl (stC rfl (stC ?_ ?_))))))))))))))
   ·simp [room, mars]; omega
   ·rw [h3]
    have := hi k hk
    simpa [mars, icv] using this) l [] rfl)).mono fun n h => by
   rw [QkA]
   refine stC ?_ h
   simp; omega)
end Go.Proofs
set_option linter.unusedSimpArgs false
set_option linter.unusedVariables false
namespace Go.Proofs
open Go.Am
variable (lb : Nat)
def stOk (x : Int) : Bool := decide (1 ≤ x ∧ x ≤ 7)
def stWords : Bs := [72, 75, 72, 76, 75, 76, 84, 75, 85, 78, 85, 67, 88, 88]
def QwQ (x : Int) : Bs := (stWords.take (2 * x).toNat).drop (2 * x - 2).toNat
def Qim (x : Int) : CV := bif stOk x then .tup [.str (QwQ x), .int .i64 0] else .tup [.str [], .int .i64 8]
theorem Qo4 (x : Int) : Ret lb QhV [.int .i64 x] (Qim x) :=
 .top rfl (.all fun n => by
  rw [Qp8]
  unfold Qim
  by_cases h1 : x < 1
  ·have : stOk x = false := by simp [stOk]; omega
   rw [this]
   exact stT (decT h1) rfl
  ·by_cases h2 : x > 7
   ·have : stOk x = false := by simp [stOk]; omega
    rw [this]
    exact stF (decF h1) (stT (decT h2) rfl)
   ·have : stOk x = true := by simp [stOk]; omega
    have hw : IntKind.wrap .i64 (2 * x) = 2 * x := QaB (by omega) (by omega)
    have hw2 : IntKind.wrap .i64 (2 * x - 2) = 2 * x - 2 := QaB (by omega) (by omega)
    rw [this, hw, hw2]
    exact stF (decF h1) (stF (decF h2) (stC (decT (by omega)) (stC (decT (by omega)) rfl))))
def Qcz (s : Sg) : Bool := QfO s.car && (Qc0 s.fr && Qc0 s.to)
def QdG (s : Sg) : Bool := decide (0 ≤ s.dep ∧ s.dep < s.arr ∧ s.arr < 52596000)
def Qbn (b : Bool) (e : Int) : List Int := bif b then [] else [e]
def QcN (s : Sg) : List Int := ((Qbn (Qcz s) 5 ++ Qbn (QdG s) 13) ++ Qbn (Qc2 s.cls) 16) ++ Qbn (stOk s.st) 10
def errV (l : List Int) : CV := .list l.isEmpty (l.map icv)
theorem Qhu {l : List Int} (h : l.length ≤ 8) : room ((l.map icv).length + 1) 8 = true := Qer (by simp; omega)
theorem Qiq (l : List Int) (e : Int) : l.map icv ++ [[CV.int .i64 e]] = (l ++ [e]).map icv := by simp [icv]
theorem Qio (l : List Int) (e : Int) : (l.isEmpty && false) = (l ++ [e]).isEmpty := by simp
theorem Qxq (s : Sg) (l : List Int) (hl : l.length ≤ 3) : Evt fun n => Qfd lb n s.car s.num s.day s.fr s.to s.dep s.arr s.cls s.st s.mar l.isEmpty (l.map icv) = some (errV (l ++ Qbn (stOk s.st) 10)) :=
 (Qo4 lb s.st).mono fun n h => by
  rw [QmS]
  refine stO _ h ?_
  unfold Qim
  cases stOk s.st with
  | true =>
   refine stO _ rfl (stO _ rfl (stO _ rfl (stO _ rfl (stO _ rfl (stF rfl ?_)))))
   show _ = some (errV (l ++ []))
   rw [List.append_nil]; rfl
  | false =>
   refine stO _ rfl (stO _ rfl (stO _ rfl (stO _ rfl (stO _ rfl (stT rfl (stC (Qhu (by omega)) ?_))))))
   rw [Qiq, Qio l 10]; rfl
theorem Qxm (s : Sg) (l : List Int) (hl : l.length ≤ 2) : Evt fun n => Qdd lb n s.car s.num s.day s.fr s.to s.dep s.arr s.cls s.st s.mar l.isEmpty (l.map icv) = some (errV ((l ++ Qbn (Qc2 s.cls) 16) ++ Qbn (stOk s.st) 10)) := by
 refine Evt.imp2 (Qp4 lb s.cls) (Qxq lb s (l ++ Qbn (Qc2 s.cls) 16) (by unfold Qbn; cases Qc2 s.cls <;> simp <;> omega)) fun n h h3 => ?_
 rw [QmT]
 refine stO _ h (stO _ (QaM _) ?_)
 cases hc : Qc2 s.cls with
 | true =>
  rw [hc] at h3
  refine stF rfl ?_
  have e : l ++ Qbn true 16 = l := List.append_nil l
  rw [e] at h3 ⊢
  exact h3
 | false =>
  rw [hc] at h3
  refine stT rfl (stC (Qhu (by omega)) ?_)
  rw [Qiq, Qio l 16]
  exact h3
theorem Qxh (s : Sg) (l : List Int) (hl : l.length ≤ 1) : Evt fun n => Qdj lb n s.car s.num s.day s.fr s.to s.dep s.arr s.cls s.st s.mar l.isEmpty (l.map icv) = some (errV (((l ++ Qbn (QdG s) 13) ++ Qbn (Qc2 s.cls) 16) ++ Qbn (stOk s.st) 10)) := by
 refine (Qxm lb s (l ++ Qbn (QdG s) 13) (by unfold Qbn; cases QdG s <;> simp <;> omega)).mono fun n h => ?_
 rw [QmM]
 cases ht : QdG s with
 | true =>
  rw [ht] at h
  have e : l ++ Qbn true 13 = l := List.append_nil l
  rw [e] at h ⊢
  simp only [QdG, decide_eq_true_eq] at ht
  exact stF (decF (by omega)) (stF (decF (by omega)) (stF (decF (by omega)) h))
 | false =>
  rw [ht] at h
  simp only [QdG, decide_eq_false_iff_not] at ht
  rw [Qiq, Qio l 13]
  by_cases h1 : s.dep < 0
  ·exact stT (decT h1) (stC (Qhu (by omega)) h)
  ·by_cases h2 : s.dep ≥ s.arr
   ·exact stF (decF h1) (stT (decT h2) (stC (Qhu (by omega)) h))
   ·exact stF (decF h1) (stF (decF h2) (stT (decT (by omega)) (stC (Qhu (by omega)) h)))
theorem Qv9 (s : Sg) (h1 : s.car.length ≤ 281474976710656) (h2 : s.fr.length ≤ 281474976710656) (h3 : s.to.length ≤ 281474976710656) : Ret lb Qbi [.agg (sgE s)] (errV (QcN s)) := by
 refine .top rfl (Evt.imp2 (Evt.imp2 (QnJ lb s.car h1) (Evt.imp2 (Qi2 lb s.fr h2) (Qi2 lb s.to h3) fun n a b => (⟨a, b⟩ : _ ∧ _)) fun n a b => (⟨a, b⟩ : _ ∧ _)) (Qxh lb s (Qbn (Qcz s) 5) (by unfold Qbn; cases Qcz s <;> simp)) fun n ⟨c1, c2, c3⟩ h => ?_)
 rw [show top lb n Qbi [.agg (sgE s)] = _ from QpC lb n s.car s.num s.day s.fr s.to s.dep s.arr s.cls s.st s.mar]
 refine stO _ c1 (stO _ (QaM _) ?_)
 unfold QcN
 cases k1 : QfO s.car with
 | false =>
  have : Qcz s = false := by unfold Qcz; rw [k1]; rfl
  rw [this] at h ⊢
  exact stT rfl h
 | true =>
  refine stF rfl (stO _ c2 (stO _ (QaM _) ?_))
  cases k2 : Qc0 s.fr with
  | false =>
   have : Qcz s = false := by unfold Qcz; rw [k1, k2]; rfl
   rw [this] at h ⊢
   exact stT rfl h
  | true =>
   refine stF rfl (stO _ c3 (stO _ (QaM _) ?_))
   have : Qcz s = Qc0 s.to := by unfold Qcz; rw [k1, k2]; rfl
   rw [this] at h ⊢
   cases k3 : Qc0 s.to with
   | false => rw [k3] at h; exact stT rfl h
   | true => rw [k3] at h; exact stF rfl h
end Go.Proofs
set_option linter.unusedSimpArgs false
set_option linter.unusedVariables false
namespace Go.Proofs
open Go.Am
variable (lb : Nat)
structure Pe where
 la : Bs
 fi : Bs
 ty : Bs
def peE (p : Pe) : List CV := [.str p.la, .str p.fi, .str p.ty]
def PeOk (p : Pe) : Prop := p.la.length ≤ 281474976710656 ∧ p.fi.length ≤ 281474976710656 ∧ p.ty.length ≤ 281474976710656
def infB (p : Pe) : Bool := p.ty == [73, 78, 70]
def aduB (p : Pe) : Bool := !infB p && !(p.ty == [67, 72, 68])
def Qen (p : Pe) : Bool := QgA p.la && QgA p.fi
def Qfz (p : Pe) : Bool := QbY p.ty 3 3
def Qcc : Int → List Pe → Int
 | n, [] => n
 | n, p :: t => Qcc ((n + (bif infB p then 1 else 0)) - (bif aduB p then 1 else 0)) t
theorem Qlh (s : Bs) : Ret lb Qbx [.str s] (.bool (QgA s)) := by
 by_cases h : s.length ≤ 30
 ·exact Qra lb s (by omega)
 ·refine .top rfl (.all fun n => ?_)
  rw [Qmk]
  have : QgA s = false := by unfold QgA; simp [h]
  rw [this]
  exact stT (decT (by omega)) rfl
theorem Quw (p : Pe) (h : PeOk p) : Ret lb QfK [.agg (peE p)] (.bool (Qen p)) :=
 .top rfl (Evt.imp2 (Qlh lb p.la) (Qlh lb p.fi) fun n h1 h2 => by
  rw [show top lb n QfK [.agg (peE p)] = _ from QpV lb n p.la p.fi p.ty]
  refine stO _ h1 (stO _ (QaM _) ?_)
  unfold Qen
  cases QgA p.la with
  | true => exact stT rfl (stO _ h2 rfl)
  | false => exact stF rfl rfl)
theorem QuG (p : Pe) (h : PeOk p) : Ret lb QdC [.agg (peE p)] (.bool (Qfz p)) :=
 .top rfl ((QfH lb p.ty 3 3 (by have := h.2.2; omega)).mono fun n h1 => by
  rw [show top lb n QdC [.agg (peE p)] = _ from Qp0 lb n p.la p.fi p.ty]
  exact stO _ h1 rfl)
theorem Qos (p : Pe) : Ret lb QdY [.agg (peE p)] (.bool (infB p)) :=
 .top rfl (.all fun n => by
  rw [show top lb n QdY [.agg (peE p)] = _ from QoA lb n p.la p.fi p.ty]
  rfl)
theorem QuB (p : Pe) : Ret lb Qel [.agg (peE p)] (.bool (aduB p)) :=
 .top rfl ((Qos lb p).mono fun n h => by
  rw [show top lb n Qel [.agg (peE p)] = _ from QpQ lb n p.la p.fi p.ty]
  refine stO _ h (stO _ (QaM _) ?_)
  unfold aduB
  cases infB p with
  | true => exact stF rfl rfl
  | false => exact stT rfl rfl)
theorem QrG (bn : Bool) (l : List Pe) (hl : l.length ≤ 1000000) : ∀ (t u : List Pe) (m : Int), u ++ t = l → -(u.length : Int) ≤ m → m ≤ (u.length : Int) → Evt fun n => ∀ k, t.length < k → QcC lb n k bn (l.map peE) m (u.length : Int) = some (.bool (decide (Qcc m t > 0)))
 | [], u, m, h, _, _ => .all fun n k hk => by
  obtain ⟨k, rfl⟩ : ∃ j, k = j + 1 := ⟨k - 1, by simp at hk; omega⟩
  have hu : u = l := by simpa using h
  rw [QgO, hu]
  refine stF (decF (by simp)) ?_
  rw [Qm7]; rfl
 | p :: t, u, m, h, m0, m1 => by
  have hul : u.length + (t.length + 1) = l.length := by rw [← h]; simp
  have hw : IntKind.wrap .i64 ((u.length : Int) + 1) = ((u ++ [p]).length : Int) := by rw [QaB (by omega) (by omega)]; simp
  have hat : atL (l.map peE) (u.length : Int) = some (peE p) := Qbz (by rw [List.getElem?_map, ← h]; simp)
  have w1 : IntKind.wrap .i64 (m + 1) = m + 1 := QaB (by omega) (by omega)
  have w2 : IntKind.wrap .i64 (m - 1) = m - 1 := QaB (by omega) (by omega)
  have w3 : IntKind.wrap .i64 (m + 1 - 1) = m := by rw [QaB (by omega) (by omega)]; omega
  have hex : infB p = true → aduB p = false := fun hi => by unfold aduB; rw [hi]; rfl
  refine Evt.imp2 (Evt.imp2 (Qos lb p) (QuB lb p) fun n a b => (⟨a, b⟩ : _ ∧ _)) (QrG bn l hl t (u ++ [p]) ((m + (bif infB p then 1 else 0)) - (bif aduB p then 1 else 0)) (by rw [← h]; simp)
   (by simp; cases infB p <;> cases aduB p <;> simp <;> omega) (by simp; cases infB p <;> cases aduB p <;> simp <;> omega)) fun n ⟨h1, h2⟩ hi k hk => ?_
  obtain ⟨k, rfl⟩ : ∃ j, k = j + 1 := ⟨k - 1, by simp at hk; omega⟩
  have hi := hi k (by simp at hk; omega)
  rw [QgO]
  unfold Qcc
  refine stT (decT (by simp; omega)) (stO _ hat (stC rfl (stO _ rfl (stO _ rfl (stO _ rfl (stO _ h1 (stO _ (QaM _) ?_)))))))
  cases hI : infB p with
  | true =>
   have hA := hex hI
   rw [hA] at h2
   rw [hI, hA] at hi
   rw [hA]
   refine stT rfl (stO _ h2 (stO _ (QaM _) (stF rfl ?_)))
   rw [w1, hw]
   simpa using hi
  | false =>
   refine stF rfl (stO _ h2 (stO _ (QaM _) ?_))
   cases hA : aduB p with
   | true =>
    rw [hI, hA] at hi
    refine stT rfl ?_
    rw [w2, hw]
    simpa using hi
   | false =>
    rw [hI, hA] at hi
    refine stF rfl ?_
    rw [hw]
    simpa using hi
theorem QqF (bn : Bool) (l : List Pe) (hl : l.length ≤ 1000000) : Ret lb Qaz [.list bn (l.map peE)] (.bool (decide (Qcc 0 l > 0))) :=
 .top rfl ((Evt.diag (QrG lb bn l hl l [] 0 rfl (by simp) (by simp))).mono fun n h => by rw [Qqb]; exact h)
end Go.Proofs
set_option linter.unusedSimpArgs false
set_option linter.unusedVariables false
namespace Go.Proofs
open Go.Am
variable (lb : Nat)
abbrev Fau := Int × Bs
def fauE (f : Fau) : List CV := [.int .i64 f.1, .str f.2]
def QaV (l : List Fau) : CV := .list l.isEmpty (l.map fauE)
def Qav (b : Bool) (e : Int) (at' : Bs) : List Fau := bif b then [(e, at')] else []
def QaT : Bs := [112, 97, 114, 116, 121]
theorem Qey (l : List Fau) (e : Int) (s : Bs) : l.map fauE ++ [[CV.int .i64 e, CV.str s]] = (l ++ [(e, s)]).map fauE := by simp [fauE]
theorem Qeq (l : List Fau) (x : Fau) : (l.isEmpty && false) = (l ++ [x]).isEmpty := by simp
theorem Qfv {l : List Fau} (h : l.length ≤ 1000000) : room ((l.map fauE).length + 1) 24 = true := Qer (by simp; omega)
theorem acc (c : Bool) (l : List Fau) (e : Int) (s : Bs) (hl : l.length ≤ 999999) (J : Bool → List (List CV) → Option CV) :
  (bif c then chkO (room ((l.map fauE).length + 1) 24) (J (l.isEmpty && false) (l.map fauE ++ [[CV.int .i64 e, CV.str s]])) else J l.isEmpty (l.map fauE)) = J (l ++ Qav c e s).isEmpty ((l ++ Qav c e s).map fauE) := by
 cases c with
 | true =>
  refine stC (Qfv (by omega)) ?_
  rw [Qey, Qeq l (e, s)]; rfl
 | false =>
  show _ = J (l ++ []).isEmpty ((l ++ []).map fauE)
  rw [List.append_nil]; rfl
theorem Qa8 (c : Bool) (e : Int) (s : Bs) : (Qav c e s).length ≤ 1 := by cases c <;> simp [Qav]
def idxF {α : Type} (f : Nat → α → List Fau) : Nat → List α → List Fau
 | _, [] => []
 | i, x :: t => f i x ++ idxF f (i + 1) t
theorem QeZ {α : Type} (f : Nat → α → List Fau) (x : α) : ∀ (l : List α) (i : Nat), idxF f i (l ++ [x]) = idxF f i l ++ f (i + l.length) x
 | [], i => by simp [idxF]
 | y :: l, i => by
  simp only [List.cons_append, idxF, QeZ f x l (i + 1), List.append_assoc, List.length_cons]
  rw [show i + 1 + l.length = i + (l.length + 1) by omega]
theorem QeW {α : Type} {f : Nat → α → List Fau} {c : Nat} (h : ∀ i x, (f i x).length ≤ c) : ∀ (l : List α) (i : Nat), (idxF f i l).length ≤ c * l.length
 | [], i => by simp [idxF]
 | y :: l, i => by
  have := QeW h l (i + 1)
  have := h i y
  simp only [idxF, List.length_append, List.length_cons, Nat.mul_add]
  omega
theorem Qf4 {n : Nat} {bn : Bool} {ps : List (List CV)} {a : Bool} (h : C lb n Qaz [.list bn ps] = some (.bool a)) (l : List Fau) (hl : l.length ≤ 1000000) :
  (optO (C lb n Qaz [.list bn ps]) fun r => optO (CV.asB r) fun b => bif b then (chkO (room ((l.map fauE).length + 1) 24) (some (.list (l.isEmpty && false) (l.map fauE ++ [[CV.int .i64 25, CV.str [112, 97, 114, 116, 121]]])))) else (some (.list l.isEmpty (l.map fauE)))) = some (QaV (l ++ Qav a 25 QaT)) := by
 refine stO _ h (stO _ (QaM _) ?_)
 cases a with
 | true =>
  refine stT rfl (stC (Qfv hl) ?_)
  rw [Qey, Qeq l (25, [112, 97, 114, 116, 121])]; rfl
 | false =>
  refine stF rfl ?_
  show _ = some (QaV (l ++ []))
  rw [List.append_nil]; rfl
def QaS (n g : Int) : Bool := decide (n + g = 0) || ((g == 0 && decide (n > 9)) || decide (n + g > 99))
theorem Qvw (bn : Bool) (ps : List Pe) (grp : Int) (l : List Fau) (g : Int) (hps : ps.length ≤ 1000000) (hl : l.length ≤ 999999) (g0 : 0 ≤ g) (g1 : g ≤ 99) :
  Evt fun n => QgX lb n bn (ps.map peE) grp l.isEmpty (l.map fauE) g = some (QaV ((l ++ Qav (QaS ps.length g) 4 QaT) ++ Qav (decide (Qcc 0 ps > 0)) 25 QaT)) :=
 (QqF lb bn ps hps).mono fun n h => by
  have hlen : (((ps.map peE).length : Nat) : Int) = (ps.length : Int) := by simp
  have hw : IntKind.wrap .i64 ((ps.length : Int) + g) = (ps.length : Int) + g := QaB (by omega) (by omega)
  have bad : (chkO (room ((l.map fauE).length + 1) 24) (optO (C lb n Qaz [.list bn (ps.map peE)]) fun r => optO (CV.asB r) fun b => bif b then (chkO (room ((l.map fauE ++ [[CV.int .i64 4, CV.str [112, 97, 114, 116, 121]]]).length + 1) 24) (some (.list ((l.isEmpty && false) && false) ((l.map fauE ++ [[CV.int .i64 4, CV.str [112, 97, 114, 116, 121]]]) ++ [[CV.int .i64 25, CV.str [112, 97, 114, 116, 121]]])))) else (some (.list (l.isEmpty && false) (l.map fauE ++ [[CV.int .i64 4, CV.str [112, 97, 114, 116, 121]]]))))) = some (QaV ((l ++ Qav true 4 QaT) ++ Qav (decide (Qcc 0 ps > 0)) 25 QaT)) := by
   refine stC (Qfv (by omega)) ?_
   rw [Qey, Qeq l (4, [112, 97, 114, 116, 121])]
   exact Qf4 lb h (l ++ [(4, QaT)]) (by simp; omega)
  have good : ∀ {r}, r = some (QaV (l ++ Qav (decide (Qcc 0 ps > 0)) 25 QaT)) → r = some (QaV ((l ++ Qav false 4 QaT) ++ Qav (decide (Qcc 0 ps > 0)) 25 QaT)) := fun e => by
   rw [e]; show _ = some (QaV ((l ++ []) ++ _)); rw [List.append_nil]
  rw [QmQ, hlen, hw]
  by_cases h0 : (ps.length : Int) + g = 0
  ·rw [show QaS ps.length g = true by simp [QaS, h0]]
   exact stT (beqT h0) bad
  refine stF (beqF h0) ?_
  by_cases hg : g = 0
  ·refine stT (beqT hg) ?_
   by_cases h9 : (ps.length : Int) > 9
   ·rw [show QaS ps.length g = true by simp [QaS, hg]; omega]
    exact stT (decT h9) bad
   refine stF (decF h9) ?_
   by_cases h99 : (ps.length : Int) + g > 99
   ·omega
   rw [show QaS ps.length g = false by simp [QaS]; omega]
   exact stF (decF h99) (good (Qf4 lb h l (by omega)))
  ·refine stF (beqF hg) ?_
   by_cases h99 : (ps.length : Int) + g > 99
   ·rw [show QaS ps.length g = true by simp [QaS]; omega]
    exact stT (decT h99) bad
   rw [show QaS ps.length g = false by simp [QaS]; omega]
   exact stF (decF h99) (good (Qf4 lb h l (by omega)))
theorem Qrq (bn : Bool) (ps : List Pe) (grp : Int) (l : List Fau) (g : Int) (hps : ps.length ≤ 1000000) (hl : l.length ≤ 999999) (g0 : 0 ≤ g) (g1 : g ≤ 99) :
  Evt fun n => Qe9 lb n bn (ps.map peE) grp l.isEmpty (l.map fauE) g = some (QaV ((l ++ Qav (QaS ps.length g) 4 QaT) ++ Qav (decide (Qcc 0 ps > 0)) 25 QaT)) :=
 (QqF lb bn ps hps).mono fun n h => by
  have hlen : (((ps.map peE).length : Nat) : Int) = (ps.length : Int) := by simp
  have hw : IntKind.wrap .i64 ((ps.length : Int) + g) = (ps.length : Int) + g := QaB (by omega) (by omega)
  have bad : (chkO (room ((l.map fauE).length + 1) 24) (optO (C lb n Qaz [.list bn (ps.map peE)]) fun r => optO (CV.asB r) fun b => bif b then (chkO (room ((l.map fauE ++ [[CV.int .i64 4, CV.str [112, 97, 114, 116, 121]]]).length + 1) 24) (some (.list ((l.isEmpty && false) && false) ((l.map fauE ++ [[CV.int .i64 4, CV.str [112, 97, 114, 116, 121]]]) ++ [[CV.int .i64 25, CV.str [112, 97, 114, 116, 121]]])))) else (some (.list (l.isEmpty && false) (l.map fauE ++ [[CV.int .i64 4, CV.str [112, 97, 114, 116, 121]]]))))) = some (QaV ((l ++ Qav true 4 QaT) ++ Qav (decide (Qcc 0 ps > 0)) 25 QaT)) := by
   refine stC (Qfv (by omega)) ?_
   rw [Qey, Qeq l (4, [112, 97, 114, 116, 121])]
   exact Qf4 lb h (l ++ [(4, QaT)]) (by simp; omega)
  have good : ∀ {r}, r = some (QaV (l ++ Qav (decide (Qcc 0 ps > 0)) 25 QaT)) → r = some (QaV ((l ++ Qav false 4 QaT) ++ Qav (decide (Qcc 0 ps > 0)) 25 QaT)) := fun e => by
   rw [e]; show _ = some (QaV ((l ++ []) ++ _)); rw [List.append_nil]
  rw [QmU, hlen, hw]
  by_cases h0 : (ps.length : Int) + g = 0
  ·rw [show QaS ps.length g = true by simp [QaS, h0]]
   exact stT (beqT h0) bad
  refine stF (beqF h0) ?_
  by_cases hg : g = 0
  ·refine stT (beqT hg) ?_
   by_cases h9 : (ps.length : Int) > 9
   ·rw [show QaS ps.length g = true by simp [QaS, hg]; omega]
    exact stT (decT h9) bad
   refine stF (decF h9) ?_
   by_cases h99 : (ps.length : Int) + g > 99
   ·omega
   rw [show QaS ps.length g = false by simp [QaS]; omega]
   exact stF (decF h99) (good (Qf4 lb h l (by omega)))
  ·refine stF (beqF hg) ?_
   by_cases h99 : (ps.length : Int) + g > 99
   ·rw [show QaS ps.length g = true by simp [QaS]; omega]
    exact stT (decT h99) bad
   rw [show QaS ps.length g = false by simp [QaS]; omega]
   exact stF (decF h99) (good (Qf4 lb h l (by omega)))
def Qc6 (g : Int) : Bool := decide (g < 0) || decide (g > 99)
def QgQ (ps : List Pe) (g : Int) : List Fau := Qav (Qc6 g) 2 QaT ++ (Qav (QaS ps.length (bif Qc6 g then 0 else g)) 4 QaT ++ Qav (decide (Qcc 0 ps > 0)) 25 QaT)
theorem Qvv (bn : Bool) (ps : List Pe) (grp : Int) (l : List Fau) (hps : ps.length ≤ 1000000) (hl : l.length ≤ 999998) :
  Evt fun n => Qg8 lb n bn (ps.map peE) grp l.isEmpty (l.map fauE) = some (QaV (l ++ QgQ ps grp)) := by
 unfold QgQ
 by_cases h0 : grp < 0
 ·have hb : Qc6 grp = true := by simp [Qc6, h0]
  refine (Qvw lb bn ps grp (l ++ [(2, QaT)]) 0 hps (by simp; omega) (by omega) (by omega)).mono fun n h => ?_
  rw [Qfo]
  refine stT (decT h0) (stC (Qfv (by omega)) ?_)
  rw [Qm2, Qey, Qeq l (2, [112, 97, 114, 116, 121]), hb]
  simpa [Qav, QaT] using h
 by_cases h1 : grp > 99
 ·have hb : Qc6 grp = true := by simp [Qc6, h1]
  refine (Qrq lb bn ps grp (l ++ [(2, QaT)]) 0 hps (by simp; omega) (by omega) (by omega)).mono fun n h => ?_
  rw [Qfo]
  refine stF (decF h0) (stT (decT h1) (stC (Qfv (by omega)) ?_))
  rw [Qie, Qey, Qeq l (2, [112, 97, 114, 116, 121]), hb]
  refine stT (decT h1) ?_
  simpa [Qav, QaT] using h
 ·have hb : Qc6 grp = false := by simp [Qc6]; omega
  refine (Qrq lb bn ps grp l grp hps (by omega) (by omega) (by omega)).mono fun n h => ?_
  rw [Qfo]
  refine stF (decF h0) (stF (decF h1) ?_)
  rw [Qie, hb]
  refine stF (decF h1) ?_
  simpa [Qav] using h
def Qb0 : Bs := [112, 101, 114, 115, 111, 110, 32]
def perF (i : Nat) (p : Pe) : List Fau := Qav (!Qen p) 5 (Qb0 ++ Lib.itoa (i : Int)) ++ Qav (!Qfz p) 8 (Qb0 ++ Lib.itoa (i : Int))
theorem QnE (i : Nat) (p : Pe) : (perF i p).length ≤ 2 := by
 unfold perF
 have := Qa8 (!Qen p) 5 (Qb0 ++ Lib.itoa (i : Int))
 have := Qa8 (!Qfz p) 8 (Qb0 ++ Lib.itoa (i : Int))
 rw [List.length_append]; omega
def QaG (ps : List Pe) (g : Int) : List Fau := idxF perF 0 ps ++ QgQ ps g
theorem Qpe (bn : Bool) (ps : List Pe) (grp : Int) (hps : ps.length ≤ 100000) (hok : ∀ p ∈ ps, PeOk p) : Ret lb QaJ [.list bn (ps.map peE), .int .i64 grp] (QaV (QaG ps grp)) := by
 have hlen : ∀ l : List Pe, (idxF perF 0 l).length ≤ 2 * l.length := fun l => QeW QnE l 0
 refine .top rfl ((Evt.diag (Qea (enc := peE) (l := ps) (P := fun p t n k => party_Check_L1 lb n k bn (ps.map peE) grp (p.length : Int) (idxF perF 0 p).isEmpty ((idxF perF 0 p).map fauE) = some (QaV (QaG ps grp))) (by omega)
  ((Qvv lb bn ps grp (idxF perF 0 ps) (by omega) (by have := hlen ps; omega)).mono fun n h k => by
    rw [QgI]
    exact stF (decF (by simp)) h)
  (fun p x t h h1 h2 h3 ih => by
   have hpl : p.length + (t.length + 1) = ps.length := by rw [← h]; simp
   have hx : PeOk x := hok x (by rw [← h]; simp)
   have hil := QeI (z := (p.length : Int)) (by omega) (by omega)
   have hF := hlen p
   refine Evt.imp2 (Evt.imp2 (Quw lb x hx) (Evt.imp2 (QuG lb x hx) (QfU lb (p.length : Int) (by omega) (by omega)) fun n a b => And.intro a b) fun n a b => And.intro a b) ih fun n ⟨c1, c2, c3⟩ hi k hk => ?_
   have hi := hi k hk
   rw [QgI]
   refine stT (decT h1) (stO _ h2 (stC rfl (stO _ rfl (stO _ rfl (stO _ rfl (stO _ c3 (stO _ rfl (stC (decT (by simp; omega)) (stO _ c1 (stO _ (QaM _) ?_))))))))))
   rw [h3]
   rw [QeZ, Nat.zero_add] at hi
   rw [show perF p.length x = Qav (!Qen x) 5 (Qb0 ++ Lib.itoa (p.length : Int)) ++ Qav (!Qfz x) 8 (Qb0 ++ Lib.itoa (p.length : Int)) from rfl] at hi
   rw [← List.append_assoc] at hi
   have step : ∀ l : List Fau, l.length ≤ 999999 → (optO (C lb n QdC [.agg [.str x.la, .str x.fi, .str x.ty]]) fun r => optO (CV.asB r) fun b => bif (!b) then chkO (room ((l.map fauE).length + 1) 24) (party_Check_L1 lb n k bn (ps.map peE) grp ((p ++ [x]).length : Int) (l.isEmpty && false) (l.map fauE ++ [[CV.int .i64 8, CV.str (Qb0 ++ Lib.itoa (p.length : Int))]])) else party_Check_L1 lb n k bn (ps.map peE) grp ((p ++ [x]).length : Int) l.isEmpty (l.map fauE)) = party_Check_L1 lb n k bn (ps.map peE) grp ((p ++ [x]).length : Int) (l ++ Qav (!Qfz x) 8 (Qb0 ++ Lib.itoa (p.length : Int))).isEmpty ((l ++ Qav (!Qfz x) 8 (Qb0 ++ Lib.itoa (p.length : Int))).map fauE) := fun l hl =>
    stO _ c2 (stO _ (QaM _) (acc (!Qfz x) l 8 (Qb0 ++ Lib.itoa (p.length : Int)) hl (fun b l => party_Check_L1 lb n k bn (ps.map peE) grp ((p ++ [x]).length : Int) b l)))
   cases hn : Qen x with
   | true =>
    refine stF rfl ((step _ (by omega)).trans ?_)
    rw [hn] at hi
    have e : idxF perF 0 p ++ Qav (!true) 5 (Qb0 ++ Lib.itoa (p.length : Int)) = idxF perF 0 p := List.append_nil _
    rw [e] at hi
    exact hi
   | false =>
    rw [hn] at hi
    refine stT rfl (stC (Qfv (by omega)) ?_)
    rw [Qey, Qeq (idxF perF 0 p) (5, [112, 101, 114, 115, 111, 110, 32] ++ Lib.itoa (p.length : Int))]
    exact (step (idxF perF 0 p ++ [(5, Qb0 ++ Lib.itoa (p.length : Int))]) (by simp; omega)).trans hi) ps [] rfl)).mono fun n h => by rw [Qpy]; exact h)
end Go.Proofs
set_option linter.unusedSimpArgs false
set_option linter.unusedVariables false
namespace Go.Proofs
open Go.Am
variable (lb : Nat)
structure Sv where
 cd : Bs
 pe : Int
 sg : Int
def svE (x : Sv) : List CV := [.str x.cd, .int .i64 x.pe, .int .i64 x.sg]
def Qis : Bs := [108, 111, 99, 97, 116, 111, 114]
def QeP : Bs := [108, 105, 109, 105, 116]
def QbZ : Bs := [115, 101, 103, 115]
def segS : Bs := [115, 101, 103, 32]
def Qbw : Bs := [115, 101, 114, 118, 105, 99, 101, 32]
def Qgn (x : Int) : Bool := decide (x < 0) || decide (x ≥ 52596000)
def Qho (np ns : Int) (x : Sv) : Bool := decide (x.pe < 0) || (decide (x.pe ≥ np) || (decide (x.sg < 0) || decide (x.sg ≥ ns)))
def svF (np ns : Int) (i : Nat) (x : Sv) : List Fau := Qav (!QbY x.cd 4 4) 5 (Qbw ++ Lib.itoa (i : Int)) ++ Qav (Qho np ns x) 7 (Qbw ++ Lib.itoa (i : Int))
def segF (i : Nat) (s : Sg) : List Fau := (QcN s).map fun e => (e, segS ++ Lib.itoa (i : Int))
def QoX (loc : Bs) (ps : List Pe) (g : Int) (l : List Sg) (svs : List Sv) (lim : Int) : List Fau :=
 (((((Qav (!QbY loc 6 6) 5 Qis ++ Qav (Qgn lim) 13 QeP) ++ QaG ps g) ++ Qav (decide ((l.length : Int) > 24)) 4 QbZ) ++ Qav (marE (mars l) != 0) (marE (mars l)) QbZ) ++ idxF segF 0 l) ++ idxF (svF ps.length l.length) 0 svs
theorem accT (l : List Fau) (e : Int) (s : Bs) (hl : l.length ≤ 999999) (J : Bool → List (List CV) → Option CV) :
  chkO (room ((l.map fauE).length + 1) 24) (J (l.isEmpty && false) (l.map fauE ++ [[CV.int .i64 e, CV.str s]])) = J (l ++ Qav true e s).isEmpty ((l ++ Qav true e s).map fauE) := by
 refine stC (Qfv (by omega)) ?_
 rw [Qey, Qeq l (e, s)]; rfl
theorem accF (l : List Fau) (e : Int) (s : Bs) (J : Bool → List (List CV) → Option CV) : J l.isEmpty (l.map fauE) = J (l ++ Qav false e s).isEmpty ((l ++ Qav false e s).map fauE) := by
 show _ = J (l ++ []).isEmpty ((l ++ []).map fauE)
 rw [List.append_nil]
theorem Qtw (np ns : Int) (i : Nat) (x : Sv) : (svF np ns i x).length ≤ 2 := by
 unfold svF
 have := Qa8 (!QbY x.cd 4 4) 5 (Qbw ++ Lib.itoa (i : Int))
 have := Qa8 (Qho np ns x) 7 (Qbw ++ Lib.itoa (i : Int))
 rw [List.length_append]; omega
theorem Qjm (b : Bool) (e : Int) : (Qbn b e).length ≤ 1 := by cases b <;> simp [Qbn]
theorem Qgx (s : Sg) : (QcN s).length ≤ 4 := by
 unfold QcN
 have := Qjm (Qcz s) 5
 have := Qjm (QdG s) 13
 have := Qjm (Qc2 s.cls) 16
 have := Qjm (stOk s.st) 10
 simp only [List.length_append]; omega
theorem Qr3 (i : Nat) (s : Sg) : (segF i s).length ≤ 4 := by unfold segF; rw [List.length_map]; exact Qgx s
theorem QwV (n yl : Nat) (aloc1 : List UInt8) (ja : Bool) (aper3 : List (List CV)) (je : Int) (jb : Bool) (aseg6 : List (List CV)) (jd : Bool) (aser9 : List (List CV)) (jc : Int) (jl : CV) (jP : Int) (s210 : List UInt8) (jk : Bool) (l17 : List (List CV)) (jg : CV) (jj : Bool × List (List CV)) (jn : CV) (c205 : List CV) (wW yz yN yZ : CV) (x : Sv) (h7 : yz = .int .i64 x.pe) (h8 : yN = .int .i64 x.sg) (G : List Fau) (hG : G.length ≤ 999999) :
  Qc7 lb n yl aloc1 ja aper3 je jb aseg6 jd aser9 jc jl jP s210 jk l17 jg jj jn c205 wW yz yN yZ G.isEmpty (G.map fauE) = Qa6 lb n yl aloc1 ja aper3 je jb aseg6 jd aser9 jc jl jk l17 jg jj jn (IntKind.wrap .i64 (jP + 1)) (G ++ Qav (Qho aper3.length aseg6.length x) 7 (Qbw ++ s210)).isEmpty ((G ++ Qav (Qho aper3.length aseg6.length x) 7 (Qbw ++ s210)).map fauE) := by
 subst h7; subst h8
 have hT := accT G 7 (Qbw ++ s210) hG (fun b l => Qa6 lb n yl aloc1 ja aper3 je jb aseg6 jd aser9 jc jl jk l17 jg jj jn (IntKind.wrap .i64 (jP + 1)) b l)
 have hF := accF G 7 (Qbw ++ s210) (fun b l => Qa6 lb n yl aloc1 ja aper3 je jb aseg6 jd aser9 jc jl jk l17 jg jj jn (IntKind.wrap .i64 (jP + 1)) b l)
 rw [Qkx]
 unfold Qho
 refine stO _ (QaK ..) ?_
 cases decide (x.pe < 0) with
 | true => exact stT rfl hT
 | false =>
  refine stF rfl (stO _ (QaK ..) ?_)
  cases decide (x.pe ≥ (aper3.length : Int)) with
  | true => exact stT rfl hT
  | false =>
   refine stF rfl (stO _ (QaK ..) ?_)
   cases decide (x.sg < 0) with
   | true => exact stT rfl hT
   | false =>
    refine stF rfl (stO _ (QaK ..) ?_)
    cases decide (x.sg ≥ (aseg6.length : Int)) with
    | true => exact stT rfl hT
    | false => exact stF rfl hF
theorem QxD (n : Nat) (aloc1 : List UInt8) (ja : Bool) (aper3 : List (List CV)) (je : Int) (jb : Bool) (aseg6 : List (List CV)) (jd : Bool) (aser9 : List (List CV)) (jc : Int) (jl : CV) (jk : Bool) (l17 : List (List CV)) (jg : CV) (jj : Bool × List (List CV)) (jn : CV) (svs : List Sv) (h9 : aser9 = svs.map svE) (hl : svs.length ≤ 100000) (hok : ∀ x ∈ svs, x.cd.length ≤ 281474976710656) (F : List Fau) (hF : F.length ≤ 500000) :
  Evt fun n => Qf0 lb n aloc1 ja aper3 je jb aseg6 jd aser9 jc jl jk l17 jg jj jn F.isEmpty (F.map fauE) = some (QaV (F ++ idxF (svF aper3.length aseg6.length) 0 svs)) := by
 subst h9
 have hlen : ∀ l : List Sv, (idxF (svF aper3.length aseg6.length) 0 l).length ≤ 2 * l.length := fun l => QeW (Qtw _ _) l 0
 refine (Evt.diag (Qea (enc := svE) (l := svs) (P := fun p t n k => Qa6 lb n k aloc1 ja aper3 je jb aseg6 jd (svs.map svE) jc jl jk l17 jg jj jn (p.length : Int) (F ++ idxF (svF aper3.length aseg6.length) 0 p).isEmpty ((F ++ idxF (svF aper3.length aseg6.length) 0 p).map fauE) = some (QaV (F ++ idxF (svF aper3.length aseg6.length) 0 svs))) (by omega)
  (.all fun n k => by
   rw [Qf1]
   refine stF (decF (by simp)) ?_
   rw [QkT]
   rfl)
  (fun p x t h h1 h2 h3 ih => by
   have hpl : p.length + (t.length + 1) = svs.length := by rw [← h]; simp
   have hx := hok x (by rw [← h]; simp)
   have hil := QeI (z := (p.length : Int)) (by omega) (by omega)
   have hP := hlen p
   refine Evt.imp2 (Evt.imp2 (QfH lb x.cd 4 4 hx) (QfU lb (p.length : Int) (by omega) (by omega)) fun n a b => And.intro a b) ih fun n ⟨c1, c2⟩ hi k hk => ?_
   have hi := hi k hk
   rw [Qf1]
   refine stT (decT h1) (stO _ h2 (stC rfl (stO _ rfl (stO _ rfl (stO _ rfl (stO _ c2 (stO _ rfl (stC (decT (by simp; omega)) (stO _ c1 (stO _ (QaM _) ?_))))))))))
   refine (acc (!QbY x.cd 4 4) (F ++ idxF (svF aper3.length aseg6.length) 0 p) 5 (Qbw ++ Lib.itoa (p.length : Int)) (by simp; omega) (fun b l => Qc7 lb n k aloc1 ja aper3 je jb aseg6 jd (svs.map svE) jc jl (p.length : Int) (Lib.itoa (p.length : Int)) jk l17 jg jj jn (svE x) (.str x.cd) (.int .i64 x.pe) (.int .i64 x.sg) (.str (Lib.itoa (p.length : Int))) b l)).trans ?_
   refine (QwV (x := x) (h7 := rfl) (h8 := rfl) (hG := by
    have := Qa8 (!QbY x.cd 4 4) 5 (Qbw ++ Lib.itoa (p.length : Int))
    rw [List.length_append, List.length_append]; omega) ..).trans ?_
   rw [h3]
   rw [QeZ, Nat.zero_add] at hi
   rw [show svF aper3.length aseg6.length p.length x = Qav (!QbY x.cd 4 4) 5 (Qbw ++ Lib.itoa (p.length : Int)) ++ Qav (Qho aper3.length aseg6.length x) 7 (Qbw ++ Lib.itoa (p.length : Int)) from rfl] at hi
   simp only [List.append_assoc] at hi ⊢
   exact hi) svs [] rfl)).mono fun n h => by
   rw [Qlw]
   have e : F ++ idxF (svF aper3.length aseg6.length) 0 ([] : List Sv) = F := List.append_nil F
   rw [e] at h
   exact h
theorem Qv3 (n yx : Nat) (aloc1 : List UInt8) (ja : Bool) (aper3 : List (List CV)) (je : Int) (jb : Bool) (aseg6 : List (List CV)) (jd : Bool) (aser9 : List (List CV)) (jc : Int) (jl : CV) (wV : Int) (jk : Bool) (l17 : List (List CV)) (jg : CV) (jj : Bool × List (List CV)) (jn : CV) (c95 : List CV) (jX j5 jT jU jv jt wF ju jr js yG : CV) (yL : Bool × List (List CV)) (m : Nat) (h59 : wV = (m : Int)) (hm : m ≤ 1000000) (er : List Int) (hr : yG = errV er) (hp : yL = (er.isEmpty, er.map icv)) (her : er.length ≤ 10) (F : List Fau) (hF : F.length ≤ 900000) (hdec : C lb n Qdf [.int .i64 wV] = some (.str (Lib.itoa (m : Int)))) : ∀ (t p : List Int), p ++ t = er → ∀ k, t.length < k →
  Qdo lb n k yx aloc1 ja aper3 je jb aseg6 jd aser9 jc jl wV jk l17 jg jj jn c95 jX j5 jT jU jv jt wF ju jr js yG yL (p.length : Int) (F ++ p.map fun e => (e, segS ++ Lib.itoa (m : Int))).isEmpty ((F ++ p.map fun e => (e, segS ++ Lib.itoa (m : Int))).map fauE) = Qds lb n yx aloc1 ja aper3 je jb aseg6 jd aser9 jc jl jk l17 jg jj jn (IntKind.wrap .i64 (wV + 1)) (F ++ er.map fun e => (e, segS ++ Lib.itoa (m : Int))).isEmpty ((F ++ er.map fun e => (e, segS ++ Lib.itoa (m : Int))).map fauE)
 | [], p, h, k, hk => by
  obtain ⟨k, rfl⟩ : ∃ j, k = j + 1 := ⟨k - 1, by simp at hk; omega⟩
  have hpe : p = er := by simpa using h
  subst hpe; subst hp
  rw [Qf8]
  refine stF (decF (by simp)) ?_
  rw [Qlr]
 | e :: t, p, h, k, hk => by
  obtain ⟨k, rfl⟩ : ∃ j, k = j + 1 := ⟨k - 1, by simp at hk; omega⟩
  have hpl : p.length + (t.length + 1) = er.length := by rw [← h]; simp
  have hil := QeI (z := (m : Int)) (by omega) (by omega)
  have hw : IntKind.wrap .i64 ((p.length : Int) + 1) = ((p ++ [e]).length : Int) := by rw [QaB (by omega) (by omega)]; simp
  have hat : atL (er.map icv) (p.length : Int) = some (icv e) := Qbz (by rw [List.getElem?_map, ← h]; simp)
  have ih := Qv3 n yx aloc1 ja aper3 je jb aseg6 jd aser9 jc jl wV jk l17 jg jj jn c95 jX j5 jT jU jv jt wF ju jr js yG yL m h59 hm er hr hp her F hF hdec t (p ++ [e]) (by rw [← h]; simp) k (by simp at hk; omega)
  have hFl : (F ++ p.map fun e => (e, segS ++ Lib.itoa (m : Int))).length ≤ 999999 := by rw [List.length_append, List.length_map]; omega
  subst hr; subst hp
  rw [Qf8]
  refine stT (decT (by simp; omega)) (stO _ rfl (stO _ hat (stC rfl (stO _ rfl (stO _ hdec (stO _ rfl (stC (decT (by simp; omega)) (stC rfl ?_))))))))
  refine (accT (F ++ p.map fun e => (e, segS ++ Lib.itoa (m : Int))) e (segS ++ Lib.itoa (m : Int)) hFl (fun b l => Qdo lb n k yx aloc1 ja aper3 je jb aseg6 jd aser9 jc jl wV jk l17 jg jj jn c95 jX j5 jT jU jv jt wF ju jr js (errV er) (er.isEmpty, er.map icv) (IntKind.wrap .i64 ((p.length : Int) + 1)) b l)).trans ?_
  rw [hw]
  rw [List.map_append, ← List.append_assoc] at ih
  exact ih
theorem QxA (n : Nat) (aloc1 : List UInt8) (ja : Bool) (aper3 : List (List CV)) (je : Int) (jb : Bool) (aseg6 : List (List CV)) (jd : Bool) (aser9 : List (List CV)) (jc : Int) (jl : CV) (jk : Bool) (l17 : List (List CV)) (jg : CV) (jj : Bool × List (List CV)) (jn : CV) (segs : List Sg) (h6 : aseg6 = segs.map sgE) (hs : segs.length ≤ 1000) (hsok : ∀ s ∈ segs, s.car.length ≤ 281474976710656 ∧ s.fr.length ≤ 281474976710656 ∧ s.to.length ≤ 281474976710656) (svs : List Sv) (h9 : aser9 = svs.map svE) (hl : svs.length ≤ 100000) (hok : ∀ x ∈ svs, x.cd.length ≤ 281474976710656) (F : List Fau) (hF : F.length ≤ 400000) :
  Evt fun n => Qdn lb n aloc1 ja aper3 je jb aseg6 jd aser9 jc jl jk l17 jg jj jn F.isEmpty (F.map fauE) = some (QaV ((F ++ idxF segF 0 segs) ++ idxF (svF aper3.length aseg6.length) 0 svs)) := by
 have hlen : ∀ l : List Sg, (idxF segF 0 l).length ≤ 4 * l.length := fun l => QeW Qr3 l 0
 have h8 := QxD lb 0 aloc1 ja aper3 je jb aseg6 jd aser9 jc jl jk l17 jg jj jn svs h9 hl hok (F ++ idxF segF 0 segs) (by have := hlen segs; rw [List.length_append]; omega)
 subst h6
 refine (Evt.diag (Qea (enc := sgE) (l := segs) (P := fun p t n k => Qds lb n k aloc1 ja aper3 je jb (segs.map sgE) jd aser9 jc jl jk l17 jg jj jn (p.length : Int) (F ++ idxF segF 0 p).isEmpty ((F ++ idxF segF 0 p).map fauE) = some (QaV ((F ++ idxF segF 0 segs) ++ idxF (svF aper3.length (segs.map sgE).length) 0 svs))) (by omega)
  (h8.mono fun n h k => by
   rw [Qf2]
   exact stF (decF (by simp)) h)
  (fun p x t h h1 h2 h3 ih => by
   have hpl : p.length + (t.length + 1) = segs.length := by rw [← h]; simp
   have hx := hsok x (by rw [← h]; simp)
   have hP := hlen p
   refine Evt.imp2 (Evt.imp2 (Qv9 lb x hx.1 hx.2.1 hx.2.2) (Evt.imp2 (QfU lb (p.length : Int) (by omega) (by omega)) (Evt.ge 6) fun n a b => And.intro a b) fun n a b => And.intro a b) ih fun n ⟨c1, c2, c3⟩ hi k hk => ?_
   have hi := hi k hk
   rw [Qf2]
   refine stT (decT h1) (stO _ h2 (stC rfl (stO _ rfl (stO _ rfl (stO _ rfl (stO _ rfl (stO _ rfl (stO _ rfl (stO _ rfl (stO _ rfl (stO _ rfl (stO _ rfl (stO _ c1 (stO _ rfl ?_))))))))))))))
   have hL := Qv3 (lb := lb) (n := n) (yx := k) (m := p.length) (wV := (p.length : Int)) (h59 := rfl) (hm := by omega) (er := QcN x) (yG := errV (QcN x)) (yL := ((QcN x).isEmpty, (QcN x).map icv)) (hr := rfl) (hp := rfl) (her := by have := Qgx x; omega) (F := F ++ idxF segF 0 p) (hF := by rw [List.length_append]; omega) (hdec := c2) (aloc1 := aloc1) (ja := ja) (aper3 := aper3) (je := je) (jb := jb) (aseg6 := segs.map sgE) (jd := jd) (aser9 := aser9) (jc := jc) (jl := jl) (jk := jk) (l17 := l17) (jg := jg) (jj := jj) (jn := jn) (c95 := sgE x) (jX := .str x.car) (j5 := .int .i64 x.num) (jT := .int .i64 x.day) (jU := .str x.fr) (jv := .str x.to) (jt := .int .i64 x.dep) (wF := .int .i64 x.arr) (ju := .str x.cls) (jr := .int .i64 x.st) (js := .int .i64 x.mar) (QcN x) [] rfl n (by have := Qgx x; omega)
   rw [List.map_nil, List.append_nil, h3] at hL
   refine Eq.trans hL ?_
   rw [QeZ, Nat.zero_add] at hi
   rw [show segF p.length x = (QcN x).map (fun e => (e, segS ++ Lib.itoa (p.length : Int))) from rfl] at hi
   rw [List.append_assoc]
   exact hi) segs [] rfl)).mono fun n h => by
   rw [Qlq]
   have e : F ++ idxF segF 0 ([] : List Sg) = F := List.append_nil F
   rw [e] at h
   exact h
theorem QsR (s : Bs) (hs : s.length ≤ 281474976710656) : Ret lb Qfp [.str s] (.bool (QbY s 6 6)) :=
 .top rfl ((QfH lb s 6 6 hs).mono fun n h => by
  rw [Qmt]
  exact stO _ h rfl)
theorem Qts (ps : List Pe) (g : Int) : (QaG ps g).length ≤ 2 * ps.length + 3 := by
 unfold QaG QgQ
 have := QeW QnE ps 0
 have := Qa8 (Qc6 g) 2 QaT
 have := Qa8 (QaS ps.length (bif Qc6 g then 0 else g)) 4 QaT
 have := Qa8 (decide (Qcc 0 ps > 0)) 25 QaT
 simp only [List.length_append]; omega
theorem QxV (n : Nat) (aloc1 : List UInt8) (ja : Bool) (aper3 : List (List CV)) (je : Int) (jb : Bool) (aseg6 : List (List CV)) (jd : Bool) (aser9 : List (List CV)) (jc : Int) (jk : Bool) (l17 : List (List CV)) (jg : CV) (jj : Bool × List (List CV)) (segs : List Sg) (h6 : aseg6 = segs.map sgE) (hs : segs.length ≤ 1000) (hsok : ∀ s ∈ segs, s.car.length ≤ 281474976710656 ∧ s.fr.length ≤ 281474976710656 ∧ s.to.length ≤ 281474976710656) (svs : List Sv) (h9 : aser9 = svs.map svE) (hl : svs.length ≤ 100000) (hok : ∀ x ∈ svs, x.cd.length ≤ 281474976710656) (F : List Fau) (hF : F.length ≤ 300000) :
  Evt fun n => Qb9 lb n aloc1 ja aper3 je jb aseg6 jd aser9 jc jk l17 jg jj F.isEmpty (F.map fauE) = some (QaV (((F ++ Qav (marE (mars segs) != 0) (marE (mars segs)) QbZ) ++ idxF segF 0 segs) ++ idxF (svF aper3.length aseg6.length) 0 svs)) := by
 have h4 := QxA lb 0 aloc1 ja aper3 je jb aseg6 jd aser9 jc (.int .i64 (marE (mars segs))) jk l17 jg jj (.list false ((mars segs).map icv)) segs h6 hs hsok svs h9 hl hok (F ++ Qav (marE (mars segs) != 0) (marE (mars segs)) QbZ) (by
  have := Qa8 (marE (mars segs) != 0) (marE (mars segs)) QbZ
  rw [List.length_append]; omega)
 have hmm : (mars segs).length ≤ 1000 := by simpa [mars] using hs
 subst h6
 refine Evt.imp2 (Evt.imp2 (Qlp lb jb segs (by omega)) (Qji lb false (mars segs) (by omega)) fun n a b => And.intro a b) h4 fun n ⟨c1, c2⟩ h => ?_
 rw [Qls]
 refine stO _ c1 (stO _ c2 (stO _ (QaK ..) ?_))
 exact (acc (marE (mars segs) != 0) F (marE (mars segs)) QbZ (by omega) (fun b l => Qdn lb n aloc1 ja aper3 je jb (segs.map sgE) jd aser9 jc (.int .i64 (marE (mars segs))) jk l17 jg jj (.list false ((mars segs).map icv)) b l)).trans h
theorem QxY (n : Nat) (aloc1 : List UInt8) (ja : Bool) (aper3 : List (List CV)) (je : Int) (jb : Bool) (aseg6 : List (List CV)) (jd : Bool) (aser9 : List (List CV)) (jc : Int) (ps : List Pe) (h3 : aper3 = ps.map peE) (hps : ps.length ≤ 1000) (hpok : ∀ p ∈ ps, PeOk p) (segs : List Sg) (h6 : aseg6 = segs.map sgE) (hs : segs.length ≤ 1000) (hsok : ∀ s ∈ segs, s.car.length ≤ 281474976710656 ∧ s.fr.length ≤ 281474976710656 ∧ s.to.length ≤ 281474976710656) (svs : List Sv) (h9 : aser9 = svs.map svE) (hl : svs.length ≤ 100000) (hok : ∀ x ∈ svs, x.cd.length ≤ 281474976710656) (F : List Fau) (hF : F.length ≤ 10) :
  Evt fun n => Qcb lb n aloc1 ja aper3 je jb aseg6 jd aser9 jc F.isEmpty (F.map fauE) = some (QaV (((((F ++ QaG ps je) ++ Qav (decide ((segs.length : Int) > 24)) 4 QbZ) ++ Qav (marE (mars segs) != 0) (marE (mars segs)) QbZ) ++ idxF segF 0 segs) ++ idxF (svF ps.length segs.length) 0 svs)) := by
 have hpl := Qts ps je
 have h4 := QxV lb 0 aloc1 ja aper3 je jb aseg6 jd aser9 jc F.isEmpty (F.map fauE) (QaV (QaG ps je)) ((QaG ps je).isEmpty, (QaG ps je).map fauE) segs h6 hs hsok svs h9 hl hok ((F ++ QaG ps je) ++ Qav (decide ((segs.length : Int) > 24)) 4 QbZ) (by
  have := Qa8 (decide ((segs.length : Int) > 24)) 4 QbZ
  simp only [List.length_append]; omega)
 subst h3; subst h6
 rw [List.length_map, List.length_map] at h4
 refine Evt.imp2 (Qpe lb ja ps je (by omega) hpok) h4 fun n c1 h => ?_
 rw [Qlz]
 refine stO _ c1 (stO _ rfl (stC (by simp [fauE]) (stC (Qer (by simp; omega)) ?_)))
 have e0 : ∀ a b : List Fau, (a.isEmpty && (b.map fauE).isEmpty) = (a ++ b).isEmpty := fun a b => by cases a <;> cases b <;> rfl
 have e1 := e0 F (QaG ps je)
 have e2 : F.map fauE ++ (QaG ps je).map fauE = (F ++ QaG ps je).map fauE := by simp
 show (bif decide ((((segs.map sgE).length : Nat) : Int) > 24) then chkO (room ((F.map fauE ++ (QaG ps je).map fauE).length + 1) 24) (Qb9 lb n aloc1 ja (ps.map peE) je jb (segs.map sgE) jd aser9 jc F.isEmpty (F.map fauE) (QaV (QaG ps je)) ((QaG ps je).isEmpty, (QaG ps je).map fauE) ((F.isEmpty && ((QaG ps je).map fauE).isEmpty) && false) ((F.map fauE ++ (QaG ps je).map fauE) ++ [[CV.int .i64 4, CV.str QbZ]])) else Qb9 lb n aloc1 ja (ps.map peE) je jb (segs.map sgE) jd aser9 jc F.isEmpty (F.map fauE) (QaV (QaG ps je)) ((QaG ps je).isEmpty, (QaG ps je).map fauE) (F.isEmpty && ((QaG ps je).map fauE).isEmpty) (F.map fauE ++ (QaG ps je).map fauE)) = _
 rw [e1, e2, List.length_map]
 exact (acc (decide ((segs.length : Int) > 24)) (F ++ QaG ps je) 4 QbZ (by rw [List.length_append]; omega) (fun b l => Qb9 lb n aloc1 ja (ps.map peE) je jb (segs.map sgE) jd aser9 jc F.isEmpty (F.map fauE) (QaV (QaG ps je)) ((QaG ps je).isEmpty, (QaG ps je).map fauE) b l)).trans h
theorem QmV (loc : Bs) (pn : Bool) (ps : List Pe) (g : Int) (bn : Bool) (l : List Sg) (rn : Bool) (svs : List Sv) (lim : Int) (hloc : loc.length ≤ 281474976710656) (hps : ps.length ≤ 1000) (hpok : ∀ p ∈ ps, PeOk p) (hs : l.length ≤ 1000) (hsok : ∀ s ∈ l, s.car.length ≤ 281474976710656 ∧ s.fr.length ≤ 281474976710656 ∧ s.to.length ≤ 281474976710656) (hl : svs.length ≤ 100000) (hok : ∀ x ∈ svs, x.cd.length ≤ 281474976710656) :
  Ret lb Qac [.agg [.str loc, .list pn (ps.map peE), .int .i64 g, .list bn (l.map sgE), .list rn (svs.map svE), .int .i64 lim]] (QaV (QoX loc ps g l svs lim)) := by
 have h1 : ∀ F : List Fau, F.length ≤ 9 → Evt fun n => booking_Check_J1 lb n loc pn (ps.map peE) g bn (l.map sgE) rn (svs.map svE) lim F.isEmpty (F.map fauE) = some (QaV ((((((F ++ Qav (Qgn lim) 13 QeP) ++ QaG ps g) ++ Qav (decide ((l.length : Int) > 24)) 4 QbZ) ++ Qav (marE (mars l) != 0) (marE (mars l)) QbZ) ++ idxF segF 0 l) ++ idxF (svF ps.length l.length) 0 svs)) := fun F hF => by
  refine (QxY lb 0 loc pn (ps.map peE) g bn (l.map sgE) rn (svs.map svE) lim ps rfl hps hpok l rfl hs hsok svs rfl hl hok (F ++ Qav (Qgn lim) 13 QeP) (by
   have := Qa8 (Qgn lim) 13 QeP
   rw [List.length_append]; omega)).mono fun n h => ?_
  have hT := accT F 13 QeP (by omega) (fun b m => Qcb lb n loc pn (ps.map peE) g bn (l.map sgE) rn (svs.map svE) lim b m)
  have hN := accF F 13 QeP (fun b m => Qcb lb n loc pn (ps.map peE) g bn (l.map sgE) rn (svs.map svE) lim b m)
  rw [Qlu]
  unfold Qgn at h ⊢
  cases h0 : decide (lim < 0) with
  | true => rw [h0] at h; exact stT rfl (hT.trans h)
  | false =>
   rw [h0] at h
   refine stF rfl ?_
   cases h9 : decide (lim ≥ 52596000) with
   | true => rw [h9] at h; exact stT rfl (hT.trans h)
   | false => rw [h9] at h; exact stF rfl (hN.trans h)
 refine .top rfl (Evt.imp2 (QsR lb loc hloc) (h1 (Qav (!QbY loc 6 6) 5 Qis) (by have := Qa8 (!QbY loc 6 6) 5 Qis; omega)) fun n c h => ?_)
 rw [QnX]
 refine stO _ c (stO _ (QaM _) ?_)
 unfold QoX
 cases hc : QbY loc 6 6 with
 | true => rw [hc] at h; exact stF rfl h
 | false => rw [hc] at h; exact stT rfl h
end Go.Proofs
