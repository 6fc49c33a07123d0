/- Chapter 10: the law RevisionTouches on plain data. Conditions: as each says. -/
import Derived.Test.YtdcpdknginpohaaGreatDoorNB
import Derived.Test.YtdcpdknginpohaaGreatDoorVe
import Derived.Test.YtdcpdknginpohaaGreatDoorVh
import Derived.Test.YtdcpdknginpohaaGreatDoorKj
import Derived.Test.YtdcpdknginpohaaGreatDoorVf
import Derived.Test.YtdcpdknginpohaaGreatDoorVi
import Derived.Test.YtdcpdknginpohaaGreatDoorNh
set_option linter.unusedSimpArgs false
set_option linter.unusedVariables false
namespace Go.Proofs
open Go.Am
variable (lb : Nat)
def onB (car : Bs) (num day : Int) (f : Fl) : Bool := (f.car == car) && ((f.num == num) && hasF f.fr f.to f.days day)
def QbN (car : Bs) (num day : Int) : List Fl → Option Fl
 | [] => none
 | f :: t => if onB car num day f then some f else QbN car num day t
def fl0 : Fl := ⟨[], 0, 0, 0, 0, true, []⟩
def onV (o : Option Fl) : CV := .tup [.agg (flE (o.getD fl0)), .bool o.isSome]
theorem Qm7 {car : Bs} {num day : Int} : ∀ {l : List Fl} {f : Fl}, QbN car num day l = some f → f ∈ l ∧ onB car num day f = true
 | [], f, h => by simp [QbN] at h
 | x :: t, f, h => by
  unfold QbN at h
  split at h
  ·rename_i hx; simp at h; subst h; exact ⟨by simp, hx⟩
  ·obtain ⟨a, b⟩ := Qm7 h
   exact ⟨by simp [a], b⟩
theorem QwX (bn : Bool) (l : List Fl) (car : Bs) (num day : Int) (hll : l.length ≤ 1000000) : ∀ (t u : List Fl), u ++ t = l → Evt fun n => ∀ k, t.length < k →
  schedule_On_L1 lb n k bn (l.map flE) car num day (u.length : Int) = some (onV (QbN car num day t))
 | [], u, h => by
  refine .all fun n k hk => ?_
  obtain ⟨k, rfl⟩ : ∃ m, k = m + 1 := ⟨k - 1, by simp at hk; omega⟩
  have hu : u = l := by simpa using h
  rw [Qhp, hu]
  refine stF (decF (by simp)) ?_
  rw [Qn3]
  rfl
 | f :: t, u, h => by
  have hlen : l.length = u.length + (t.length + 1) := by rw [← h]; simp
  have hw1 : IntKind.wrap .i64 ((u.length : Int) + 1) = ((u ++ [f]).length : Int) := by rw [QaF (by omega) (by omega)]; simp
  refine Evt.imp2 (Qk6 lb f.fr f.to f.days day) (QwX bn l car num day hll t (u ++ [f]) (by rw [← h]; simp)) fun n hm hi k hk => ?_
  obtain ⟨k, rfl⟩ : ∃ m, k = m + 1 := ⟨k - 1, by simp at hk; omega⟩
  have hi := hi k (by simp at hk; omega)
  have at_ := Qa0 (Qd2 h)
  unfold QbN onB
  rw [Qhp, hw1]
  refine stT (decT (by simp; omega)) (stO _ at_ (stC rfl (stO _ rfl (stO _ rfl (stO _ rfl (stO _ rfl (stO _ rfl (stO _ rfl (stO _ rfl ?_)))))))))
  cases h1 : f.car == car with
  | false => exact stF rfl (by simpa using hi)
  | true =>
   refine stT rfl (stO _ (QaG ..) ?_)
   cases h2 : f.num == num with
   | false => exact stF rfl (by simpa using hi)
   | true =>
    refine stT rfl (stO _ hm (stO _ (QaL _) ?_))
    cases h3 : hasF f.fr f.to f.days day with
    | false => exact stF rfl (by simpa using hi)
    | true => exact stT rfl rfl
theorem QjW (bn : Bool) (l : List Fl) (car : Bs) (num day : Int) (hll : l.length ≤ 1000000) : Ret lb Qba [.list bn (l.map flE), .str car, .int .i64 num, .int .i64 day] (onV (QbN car num day l)) :=
 .top rfl ((Evt.diag (QwX lb bn l car num day hll l [] rfl)).mono fun n h => by rw [Qrm]; exact h)
end Go.Proofs
set_option linter.unusedSimpArgs false
set_option linter.unusedVariables false
namespace Go.Proofs
open Go.Am
theorem Qz8 : ∀ (d : Fin 128) (w v : Fin 7), (orB ((d.val : Nat) : Int) w.val / 2 ^ v.val % 2 == 1) = ((((d.val : Nat) : Int) / 2 ^ v.val % 2 == 1) || decide (w.val = v.val)) := by decide +kernel
theorem Qzy {acc e d : Int} (h0 : 0 ≤ acc ∧ acc < 128) (he : 0 ≤ e) (hd : 0 ≤ d) : onF (orB acc (Qa2 e).toNat) d = (onF acc d || decide (Qa2 e = Qa2 d)) := by
 obtain ⟨h1, h2⟩ := Qcg he
 obtain ⟨h3, h4⟩ := Qcg hd
 obtain ⟨a, rfl⟩ := Int.eq_ofNat_of_zero_le h0.1
 obtain ⟨w, hw⟩ := Int.eq_ofNat_of_zero_le h1
 obtain ⟨v, hv⟩ := Int.eq_ofNat_of_zero_le h3
 unfold onF
 rw [hw, hv]
 have := Qz8 ⟨a, by omega⟩ ⟨w, by omega⟩ ⟨v, by omega⟩
 have e2 : decide (((w : Nat) : Int) = (v : Nat)) = decide (w = v) := by
  by_cases h : w = v
  ·simp [h]
  ·rw [decide_eq_false h, decide_eq_false (by omega)]
 rw [e2]
 exact this
theorem Qty {d : Int} (hd : 0 ≤ d) : ∀ (l : List Int) (acc : Int), (∀ e ∈ l, 0 ≤ e) → 0 ≤ acc ∧ acc < 128 → onF (Qb1 acc l) d = (onF acc d || l.any fun e => decide (Qa2 e = Qa2 d))
 | [], acc, _, _ => by simp [Qb1]
 | e :: l, acc, h, h0 => by
  have he := h e (by simp)
  simp only [Qb1, List.any_cons]
  rw [Qty hd l _ (fun x hx => h x (by simp [hx])) (QrL h0 he), Qzy h0 he hd, Bool.or_assoc]
theorem Qt4 : ∀ (l : List Int), Asc l → ∀ e ∈ l, e ≤ l.getLast?.getD 0
 | [], _, e, he => by simp at he
 | [x], _, e, he => by simp at he; simp [he]
 | x :: y :: t, h, e, he => by
  have h1 := List.pairwise_cons.1 h
  have ih := Qt4 (y :: t) h1.2
  rw [List.getLast?_cons_cons]
  rcases List.mem_cons.1 he with rfl | he
  ·have := h1.1 y (by simp)
   have := ih y (by simp)
   omega
  ·exact ih e he
theorem Qyb : ∀ (l : List Int), l ≠ [] → l.getLast?.getD 0 ∈ l := fun l h => by
 rw [List.getLast?_eq_some_getLast h]
 exact List.getLast_mem h
def hasQ (q : P3) (d : Int) : Bool := hasF q.1 q.2.1 q.2.2 d
theorem QxL {c d e : Int} (h : Qa2 e = Qa2 d) : onF c e = onF c d := by unfold onF; rw [h]
theorem Qvw {a b c : Int} {q : P3} (h : ofF (Qar a b c) = some q) : perE q.1 q.2.1 q.2.2 = 0 ∧ ∀ d, hasQ q d = hasF a b c d := by
 have hA := Qfz a b c
 have hm : ∀ e, e ∈ Qar a b c ↔ hasF a b c e = true := fun e => Qc3
 have hr : ∀ e ∈ Qar a b c, 0 ≤ e ∧ e < 36525 := fun e he => ⟨(QdF he).1, (QdF he).2.1⟩
 cases hl : Qar a b c with
 | nil => rw [hl] at h; cases h
 | cons x r =>
  rw [hl] at h hA hm hr
  have hl2 := Qyb (x :: r) (by simp)
  have hlo : ∀ e ∈ x :: r, x ≤ e := fun e he => by
   rcases List.mem_cons.1 he with rfl | he
   ·omega
   ·have := (List.pairwise_cons.1 hA).1 e he; omega
  have hhi := Qt4 (x :: r) hA
  have hq : q = (x, (x :: r).getLast?.getD 0, Qb1 0 (x :: r)) := by simpa [ofF] using h.symm
  generalize (x :: r).getLast?.getD 0 = y at hl2 hhi hq
  have hb := Qgl (x :: r) 0 (fun e he => (hr e he).1) (by omega)
  have hon : ∀ d, 0 ≤ d → onF (Qb1 0 (x :: r)) d = (x :: r).any fun e => decide (Qa2 e = Qa2 d) := fun d hd => by
   rw [Qty hd _ _ (fun e he => (hr e he).1) (by omega), Qri, Bool.false_or]
  have hx := (Qbu ..).1 ((hm x).1 (by simp))
  have hy := (Qbu ..).1 ((hm y).1 hl2)
  obtain ⟨p0, p1, p2, p3, p4, p5⟩ := QcR hx.1
  have hne : Qb1 0 (x :: r) ≠ 0 := fun e => by
   have := hon x (by omega)
   rw [e, Qri] at this
   simp at this
  have hxy := hhi x (by simp)
  subst hq
  have hE : perE x y (Qb1 0 (x :: r)) = 0 := by
   unfold perE
   rw [if_neg (by omega), if_neg (by omega), if_neg (by omega)]
  refine ⟨hE, fun d => ?_⟩
  unfold hasQ
  cases hd : hasF a b c d with
  | true =>
   have hd' := (hm d).2 hd
   have := hlo d hd'
   have := hhi d hd'
   refine (Qbu ..).2 ⟨hE, by simpa using hlo d hd', by simpa using hhi d hd', ?_⟩
   rw [hon d (hr d hd').1, List.any_eq_true]
   exact ⟨d, hd', by simp⟩
  | false =>
   cases hd2 : hasF x y (Qb1 0 (x :: r)) d with
   | false => rfl
   | true =>
    obtain ⟨_, k1, k2, k3⟩ := (Qbu ..).1 hd2
    rw [hon d (by omega), List.any_eq_true] at k3
    obtain ⟨e, he, hw⟩ := k3
    have he2 := (Qbu ..).1 ((hm e).1 he)
    have := (Qbu a b c d).2 ⟨hx.1, by omega, by omega, by rw [← QxL (by simpa using hw)]; exact he2.2.2.2⟩
    rw [this] at hd
    cases hd
theorem Qvk {l : List Int} {d : Int} (h : d ∈ l) : ∃ w, ofF l = some w := by
 cases l with
 | nil => simp at h
 | cons x r => exact ⟨_, rfl⟩
theorem Qq2 {a b c d : Int} (h : hasF a b c d = true) : perE a b c = 0 := ((Qbu ..).1 h).1
theorem Qxa {a b c a' b' c' : Int} (ha : perE a b c = 0) (hb : perE a' b' c' = 0) : Qff a b c a' b' c' = Qar (maxP a a') (minP b b') (andD c c') := by
 obtain ⟨b0, b1, b2, b3, b4, b5⟩ := QcR hb
 unfold Qff
 refine Asc.ext ((Qfz _ _ _).filter _) (Qfz _ _ _) fun x => ?_
 rw [Qg7 ha (by omega), List.mem_filter, Qc3, Qbu a' b' c']
 constructor
 ·rintro ⟨q1, _, q2, q3, q4⟩; exact ⟨q1, q2, q3, q4⟩
 ·rintro ⟨q1, q2, q3, q4⟩; exact ⟨q1, hb, q2, q3, q4⟩
theorem Qk9 {a b c a' b' c' d : Int} : d ∈ Qff a b c a' b' c' ↔ hasF a b c d = true ∧ hasF a' b' c' d = true := by
 unfold Qff
 rw [List.mem_filter, Qc3]
theorem Qx6 {a b c a' b' c' : Int} {q : P3} (h : Qdh a b c a' b' c' = some q) : perE q.1 q.2.1 q.2.2 = 0 ∧ ∀ d, hasQ q d = (hasF a b c d && hasF a' b' c' d) := by
 unfold Qdh at h
 obtain ⟨d0, hd0⟩ : ∃ d, d ∈ Qff a b c a' b' c' := by
  cases hm : Qff a b c a' b' c' with
  | nil => rw [hm] at h; cases h
  | cons x r => exact ⟨x, by simp⟩
 obtain ⟨h1, h2⟩ := Qk9.1 hd0
 have e := Qxa (Qq2 h1) (Qq2 h2)
 rw [e] at h
 obtain ⟨k1, k2⟩ := Qvw h
 refine ⟨k1, fun d => ?_⟩
 rw [k2, Bool.eq_iff_iff, Bool.and_eq_true, ← Qc3, ← e, Qk9]
theorem QrF {a b c a' b' c' : Int} : (Qdh a b c a' b' c').isSome = true ↔ ∃ d, hasF a b c d = true ∧ hasF a' b' c' d = true := by
 constructor
 ·intro h
  unfold Qdh at h
  cases hm : Qff a b c a' b' c' with
  | nil => rw [hm] at h; cases h
  | cons x r => exact ⟨x, Qk9.1 (by rw [hm]; simp)⟩
 ·rintro ⟨d, h⟩
  obtain ⟨w, hw⟩ := Qvk (Qk9.2 h)
  unfold Qdh
  rw [hw]; rfl
theorem QeI {a b c f t D : Int} (ha : perE a b c = 0) (hD : 0 ≤ D ∧ D < 128) {w : P3} (h : Qda a b c f t D = some w) : perE w.1 w.2.1 w.2.2 = 0 ∧ ∀ d, hasQ w d = true ↔ hasF a b c d = true ∧ f ≤ d ∧ d ≤ t ∧ onF D d = true := by
 unfold Qda at h
 obtain ⟨k1, k2⟩ := Qvw h
 exact ⟨k1, fun d => by rw [k2, ← Qc3, Qg7 ha hD]⟩
theorem Qkw {a b c f t D d : Int} (ha : perE a b c = 0) (hD : 0 ≤ D ∧ D < 128) (h : hasF a b c d = true ∧ f ≤ d ∧ d ≤ t ∧ onF D d = true) : ∃ w, Qda a b c f t D = some w ∧ hasQ w d = true := by
 obtain ⟨w, hw⟩ := Qvk ((Qg7 ha hD).2 h)
 exact ⟨w, hw, ((QeI ha hD hw).2 d).2 h⟩
theorem QuS {a b c a' b' c' : Int} (ha : perE a b c = 0) (hb : perE a' b' c' = 0) {w : P3} (hw : w ∈ Qcm a b c a' b' c') : perE w.1 w.2.1 w.2.2 = 0 ∧ ∀ d, hasQ w d = true → hasF a b c d = true ∧ hasF a' b' c' d = false := by
 obtain ⟨b0, b1, b2, b3, b4, b5⟩ := QcR hb
 obtain ⟨a0, a1, a2, a3, a4, a5⟩ := QcR ha
 rw [Qgr _ _ _ _ _ _ ha hb] at hw
 have no : ∀ d, ¬ (hasF a' b' c' d = true) → hasF a' b' c' d = false := fun d h => by simpa using h
 rcases List.mem_append.1 hw with hw | hw
 ·rcases List.mem_append.1 hw with hw | hw
  ·obtain ⟨k1, k2⟩ := QeI ha (by omega) (Option.mem_toList.1 hw)
   refine ⟨k1, fun d hd => ?_⟩
   obtain ⟨q1, q2, q3, _⟩ := (k2 d).1 hd
   exact ⟨q1, no d fun h => by have := (Qbu ..).1 h; omega⟩
  ·obtain ⟨k1, k2⟩ := QeI ha (QiM (by omega)) (Option.mem_toList.1 hw)
   refine ⟨k1, fun d hd => ?_⟩
   obtain ⟨q1, q2, q3, q4⟩ := (k2 d).1 hd
   refine ⟨q1, no d fun h => ?_⟩
   rw [Qrl (by omega) (by omega), ((Qbu ..).1 h).2.2.2] at q4
   cases q4
 ·obtain ⟨k1, k2⟩ := QeI ha (by omega) (Option.mem_toList.1 hw)
  refine ⟨k1, fun d hd => ?_⟩
  obtain ⟨q1, q2, q3, _⟩ := (k2 d).1 hd
  exact ⟨q1, no d fun h => by have := (Qbu ..).1 h; omega⟩
theorem Qsw {a b c a' b' c' d : Int} (hb : perE a' b' c' = 0) (h1 : hasF a b c d = true) (h2 : hasF a' b' c' d = false) : ∃ w ∈ Qcm a b c a' b' c', hasQ w d = true := by
 have ha := Qq2 h1
 obtain ⟨b0, b1, b2, b3, b4, b5⟩ := QcR hb
 obtain ⟨a0, a1, a2, a3, a4, a5⟩ := QcR ha
 obtain ⟨_, k1, k2, k3⟩ := (Qbu ..).1 h1
 rw [Qgr _ _ _ _ _ _ ha hb]
 by_cases c1 : d < a'
 ·obtain ⟨w, hw, hd⟩ := Qkw (f := a) (t := a' - 1) (D := 127) ha (by omega) ⟨h1, by omega, by omega, QnB (by omega)⟩
  exact ⟨w, by simp [hw], hd⟩
 ·by_cases c2 : b' < d
  ·obtain ⟨w, hw, hd⟩ := Qkw (f := b' + 1) (t := b) (D := 127) ha (by omega) ⟨h1, by omega, by omega, QnB (by omega)⟩
   exact ⟨w, by simp [hw], hd⟩
  ·have ho : onF c' d = false := by
    cases ho : onF c' d with
    | false => rfl
    | true => rw [(Qbu ..).2 ⟨hb, by omega, by omega, ho⟩] at h2; cases h2
   obtain ⟨w, hw, hd⟩ := Qkw (f := a') (t := b') (D := notD c') ha (QiM (by omega)) ⟨h1, by omega, by omega, by rw [Qrl (by omega) (by omega), ho]; rfl⟩
   exact ⟨w, by simp [hw], hd⟩
def Apart (x y : P3) : Prop := ∀ d, ¬ (hasQ x d = true ∧ hasQ y d = true)
theorem Qzu (o1 o2 o3 : Option P3) (m n : Int) (hmn : m ≤ n + 1) (h1 : ∀ w, o1 = some w → ∀ d, hasQ w d = true → d < m) (h2 : ∀ w, o2 = some w → ∀ d, hasQ w d = true → m ≤ d ∧ d ≤ n) (h3 : ∀ w, o3 = some w → ∀ d, hasQ w d = true → n < d) :
  (o1.toList ++ o2.toList ++ o3.toList).Pairwise Apart := by
 have a12 : ∀ x y, o1 = some x → o2 = some y → Apart x y := fun x y hx hy d ⟨k1, k2⟩ => by
  have := h1 x hx d k1; have := h2 y hy d k2; omega
 have a13 : ∀ x y, o1 = some x → o3 = some y → Apart x y := fun x y hx hy d ⟨k1, k2⟩ => by
  have := h1 x hx d k1; have := h3 y hy d k2; omega
 have a23 : ∀ x y, o2 = some x → o3 = some y → Apart x y := fun x y hx hy d ⟨k1, k2⟩ => by
  have := h2 x hx d k1; have := h3 y hy d k2; omega
 clear h1 h2 h3
 cases o1 <;> cases o2 <;> cases o3 <;> simp_all
theorem QsX {a b c a' b' c' : Int} (ha : perE a b c = 0) (hb : perE a' b' c' = 0) : (Qcm a b c a' b' c').Pairwise Apart := by
 obtain ⟨b0, b1, b2, b3, b4, b5⟩ := QcR hb
 rw [Qgr _ _ _ _ _ _ ha hb]
 refine Qzu _ _ _ a' b' (by omega) (fun w hw d hd => ?_) (fun w hw d hd => ?_) fun w hw d hd => ?_
 ·have := ((QeI ha (by omega) hw).2 d).1 hd; omega
 ·have := ((QeI ha (QiM (by omega)) hw).2 d).1 hd; omega
 ·have := ((QeI ha (by omega) hw).2 d).1 hd; omega
def Qha (f : Fl) (d : Int) : Bool := hasF f.fr f.to f.days d
def Sub (z f : Fl) : Prop := z.car = f.car ∧ z.num = f.num ∧ ∀ d, Qha z d = true → Qha f d = true
def Dis (f g : Fl) : Prop := f.car = g.car → f.num = g.num → ∀ d, ¬ (Qha f d = true ∧ Qha g d = true)
theorem Sub.rfl' (f : Fl) : Sub f f := ⟨rfl, rfl, fun _ h => h⟩
theorem Dis.symm {f g : Fl} (h : Dis f g) : Dis g f := fun h1 h2 d ⟨h3, h4⟩ => h h1.symm h2.symm d ⟨h4, h3⟩
theorem Dis.sub {f g z y : Fl} (h : Dis f g) (h1 : Sub z f) (h2 : Sub y g) : Dis z y := fun e1 e2 d ⟨h3, h4⟩ =>
 h (h1.1.symm.trans (e1.trans h2.1)) (h1.2.1.symm.trans (e2.trans h2.2.1)) d ⟨h1.2.2 d h3, h2.2.2 d h4⟩
theorem QpO (f g : Fl) : QcE f g = true ↔ f.car = g.car ∧ f.num = g.num ∧ ∃ d, Qha f d = true ∧ Qha g d = true := by
 unfold QcE
 rw [Bool.and_eq_true, Bool.and_eq_true, QrF, beq_iff_eq, beq_iff_eq]
 rfl
theorem Qm3 (f g : Fl) : QcE f g = false ↔ Dis f g := by
 constructor
 ·intro h h1 h2 d hd
  rw [(QpO f g).2 ⟨h1, h2, d, hd⟩] at h
  cases h
 ·intro h
  cases hm : QcE f g with
  | false => rfl
  | true =>
   obtain ⟨h1, h2, d, hd⟩ := (QpO f g).1 hm
   exact absurd hd (h h1 h2 d)
theorem QrY (f : Fl) (r : Rv) : Qa9 f r = true ↔ f.car = r.car ∧ f.num = r.num ∧ ∃ d, Qha f d = true ∧ hasF r.fr r.to r.days d = true := by
 unfold Qa9 QjV
 rw [Bool.and_eq_true, Bool.and_eq_true, QrF, beq_iff_eq, beq_iff_eq]
 rfl
theorem Qt5 {p : Pc} : ∀ {t q : List Fl}, Qeq p q t = [] ↔ (∀ f ∈ t, QaE p f = [] ∧ ∀ g ∈ q, Dis g f) ∧ t.Pairwise Dis
 | [], q => by simp [Qeq]
 | f :: t, q => by
  unfold Qeq
  rw [List.append_eq_nil_iff, Qt5 (t := t), List.pairwise_cons]
  have h8 : ft8 p q.length (q.any (QcE · f)) f = [] ↔ QaE p f = [] ∧ ∀ g ∈ q, Dis g f := by
   unfold ft8
   rw [List.append_eq_nil_iff, List.map_eq_nil_iff]
   refine and_congr_right fun _ => ?_
   constructor
   ·intro h g hg
    cases ha : q.any (QcE · f) with
    | true => rw [ha] at h; cases h
    | false =>
     have := List.any_eq_false.1 ha g hg
     exact (Qm3 g f).1 (by simpa using this)
   ·intro h
    rw [List.any_eq_false.2 fun g hg => by rw [(Qm3 g f).2 (h g hg)]; simp]
    rfl
  rw [h8]
  constructor
  ·rintro ⟨⟨h1, h2⟩, h3, h4⟩
   refine ⟨fun g hg => ?_, ⟨fun g hg => (h3 g hg).2 f (by simp), h4⟩⟩
   rcases List.mem_cons.1 hg with rfl | hg
   ·exact ⟨h1, h2⟩
   ·exact ⟨(h3 g hg).1, fun x hx => (h3 g hg).2 x (by simp [hx])⟩
  ·rintro ⟨h1, h2, h3⟩
   refine ⟨h1 f (by simp), fun g hg => ⟨(h1 g (by simp [hg])).1, fun x hx => ?_⟩, h3⟩
   rcases List.mem_append.1 hx with hx | hx
   ·exact (h1 g (by simp [hg])).2 x hx
   ·simp at hx; subst hx; exact h2 g hg
theorem Qdv {p : Pc} {l : List Fl} : Qeq p [] l = [] ↔ (∀ f ∈ l, QaE p f = []) ∧ l.Pairwise Dis := by
 rw [Qt5]
 simp
theorem Quf {p : Pc} {l : List Lg} : ∀ {D : List Int}, (∀ d ∈ D, ordF p l d = true) → Qcp p l D = []
 | [], _ => rfl
 | d :: D, h => by
  unfold Qcp
  rw [if_pos (h d (by simp))]
  exact Quf fun e he => h e (by simp [he])
theorem Qxk {f g : Fl} (h1 : g.car = f.car) (h2 : g.num = f.num) (h : perE g.fr g.to g.days = 0) (hf : Qc7 f = []) : Qc7 g = [] := by
 unfold Qc7 at hf ⊢
 obtain ⟨h3, _⟩ := List.append_eq_nil_iff.1 hf
 rw [h1, h2, h3, h]
 rfl
theorem Qw3 {p : Pc} {f g : Fl} (hl : g.legs = f.legs) (hp : perE g.fr g.to g.days = 0) (hs : Sub g f) (hf : QaE p f = []) : QaE p g = [] := by
 obtain ⟨c1, c2, c3, c4, c5⟩ := QiY hf
 unfold QaE
 rw [hl, if_neg (by omega), Qxk hs.1 hs.2.1 hp c3, c4, if_pos (show ([] ++ [] : List Ft) = [] from rfl)]
 exact Quf fun d hd => c5 d (hs.2.2 d (Qc3.1 hd))
theorem Qmx {p : Pc} {f : Fl} (hf : QaE p f = []) : perE f.fr f.to f.days = 0 := by
 obtain ⟨_, _, c3, _⟩ := QiY hf
 unfold Qc7 at c3
 obtain ⟨_, h⟩ := List.append_eq_nil_iff.1 c3
 by_cases h0 : perE f.fr f.to f.days = 0
 ·exact h0
 ·rw [if_pos (by simpa using h0)] at h; cases h
theorem Qug {R : Fl → Fl → Prop} (hs : ∀ {a b}, R a b → R b a) {g : Fl} : ∀ {P : List Fl}, P.Pairwise R → (∀ y ∈ P, R g y) → (insF g P).Pairwise R
 | [], _, _ => by simp [insF]
 | y :: t, h, hg => by
  unfold insF
  have h1 := List.pairwise_cons.1 h
  split
  ·exact List.pairwise_cons.2 ⟨hg, h⟩
  ·refine List.pairwise_cons.2 ⟨fun z hz => ?_, Qug hs h1.2 fun z hz => hg z (by simp [hz])⟩
   rcases QnO hz with rfl | hz
   ·exact hs (hg y (by simp))
   ·exact h1.1 z hz
theorem QlL {f : Fl} {r : Rv} (ha : perE f.fr f.to f.days = 0) (hb : perE r.fr r.to r.days = 0) {z : Fl} (hz : z ∈ Qa3 f r) : Sub z f ∧ perE z.fr z.to z.days = 0 ∧ z.legs = f.legs ∧ ∀ d, Qha z d = true → hasF r.fr r.to r.days d = false := by
 obtain ⟨w, hw, rfl⟩ := List.mem_map.1 hz
 obtain ⟨k1, k2⟩ := QuS ha hb hw
 exact ⟨⟨rfl, rfl, fun d hd => (k2 d hd).1⟩, k1, rfl, fun d hd => (k2 d hd).2⟩
theorem Qkk {f : Fl} {r : Rv} (ht : Qa9 f r = true) : Sub (QaI r f (qOf f r)) f ∧ ∀ d, Qha (QaI r f (qOf f r)) d = true → hasF r.fr r.to r.days d = true := by
 have hm := Qts ht
 obtain ⟨k1, k2⟩ := Qx6 hm
 have e : (QaI r f (qOf f r)).car = f.car ∧ (QaI r f (qOf f r)).num = f.num ∧ ∀ d, Qha (QaI r f (qOf f r)) d = hasQ (qOf f r) d := by
  unfold QaI
  split <;> exact ⟨rfl, rfl, fun d => rfl⟩
 refine ⟨⟨e.1, e.2.1, fun d hd => ?_⟩, fun d hd => ?_⟩
 ·rw [e.2.2, k2, Bool.and_eq_true] at hd; exact hd.1
 ·rw [e.2.2, k2, Bool.and_eq_true] at hd; exact hd.2
theorem QoL {f : Fl} {r : Rv} (ha : perE f.fr f.to f.days = 0) (hb : perE r.fr r.to r.days = 0) : (Qa3 f r).Pairwise Dis := by
 unfold Qa3 wF
 rw [List.pairwise_map]
 exact (QsX ha hb).imp fun h _ _ d hd => h d hd
def From2 (r : Rv) (l : List Fl) (z : Fl) : Prop := (z ∈ l ∧ Qa9 z r = false) ∨ (∃ f ∈ l, Qa9 f r = true ∧ z ∈ Qa3 f r) ∨ (r.kind ≠ 2 ∧ ∃ f ∈ l, Qa9 f r = true ∧ z = QaI r f (qOf f r))
theorem From2.cons {r : Rv} {l : List Fl} {f z : Fl} (h : From2 r l z) : From2 r (f :: l) z := by
 rcases h with ⟨h1, h2⟩ | ⟨g, h1, h2⟩ | ⟨hk, g, h1, h2⟩
 ·exact .inl ⟨by simp [h1], h2⟩
 ·exact .inr (.inl ⟨g, by simp [h1], h2⟩)
 ·exact .inr (.inr ⟨hk, g, by simp [h1], h2⟩)
theorem QrP {f z : Fl} {r : Rv} (h : z ∈ (QdL f r (qOf f r)).1) : z ∈ Qa3 f r ∨ (r.kind ≠ 2 ∧ z = QaI r f (qOf f r)) := by
 unfold QdL at h
 split at h
 ·exact .inl h
 ·rename_i hk
  rcases QnO h with h | h
  ·exact .inr ⟨hk, h⟩
  ·exact .inl h
theorem Qvd {g z : Fl} : ∀ {P : List Fl}, z ∈ P → z ∈ insF g P
 | y :: t, h => by
  unfold insF
  split
  ·simp [List.mem_cons.1 h]
  ·rcases List.mem_cons.1 h with rfl | h
   ·simp
   ·simp [Qvd h]
theorem Qxb {f z : Fl} {r : Rv} (h : z ∈ Qa3 f r) : z ∈ (QdL f r (qOf f r)).1 := by
 unfold QdL
 split
 ·exact h
 ·exact Qvd h
theorem QgR (r : Rv) : ∀ (l : List Fl) (z : Fl), z ∈ outR r l → From2 r l z
 | [], z, h => by simp [outR] at h
 | f :: t, z, h => by
  unfold outR at h
  rcases List.mem_append.1 h with h | h
  ·cases ht : Qa9 f r with
   | false =>
    rw [ht] at h
    simp at h
    subst h
    exact .inl ⟨by simp, ht⟩
   | true =>
    rw [ht] at h
    simp only [if_true] at h
    rcases QrP h with h | ⟨hk, h⟩
    ·exact .inr (.inl ⟨f, by simp, ht, h⟩)
    ·exact .inr (.inr ⟨hk, f, by simp, ht, h⟩)
  ·exact (QgR r t z h).cons
theorem QpE {r : Rv} {z : Fl} (ht : Qa9 z r = false) : ∀ {l : List Fl}, z ∈ l → z ∈ outR r l
 | f :: t, h => by
  unfold outR
  rcases List.mem_cons.1 h with rfl | h
  ·rw [ht]; simp
  ·exact List.mem_append.2 (.inr (QpE ht h))
theorem Qsm {r : Rv} {f z : Fl} (ht : Qa9 f r = true) (hz : z ∈ Qa3 f r) : ∀ {l : List Fl}, f ∈ l → z ∈ outR r l
 | g :: t, h => by
  unfold outR
  rcases List.mem_cons.1 h with rfl | h
  ·rw [ht]; exact List.mem_append.2 (.inl (Qxb hz))
  ·exact List.mem_append.2 (.inr (Qsm ht hz h))
theorem QrX {p : Pc} {r : Rv} (hb : perE r.fr r.to r.days = 0) {l : List Fl} (hl : ∀ f ∈ l, QaE p f = []) {z : Fl} (h : From2 r l z) : ∃ f ∈ l, Sub z f := by
 rcases h with ⟨h1, _⟩ | ⟨f, h1, _, h2⟩ | ⟨_, f, h1, h2, h3⟩
 ·exact ⟨z, h1, Sub.rfl' z⟩
 ·exact ⟨f, h1, (QlL (Qmx (hl f h1)) hb h2).1⟩
 ·subst h3; exact ⟨f, h1, (Qkk h2).1⟩
theorem Qpi {p : Pc} {r : Rv} (hb : perE r.fr r.to r.days = 0) : ∀ {l : List Fl}, (∀ f ∈ l, QaE p f = []) → l.Pairwise Dis → (outR r l).Pairwise Dis
 | [], _, _ => by simp [outR]
 | f :: t, hl, hd => by
  have h1 := List.pairwise_cons.1 hd
  have hf := Qmx (hl f (by simp))
  unfold outR
  refine List.pairwise_append.2 ⟨?_, Qpi hb (fun g hg => hl g (by simp [hg])) h1.2, fun z hz y hy => ?_⟩
  ·cases ht : Qa9 f r with
   | false => simp
   | true =>
    simp only [if_true]
    unfold QdL
    split
    ·exact QoL hf hb
    ·refine Qug Dis.symm (QoL hf hb) fun y hy _ _ d ⟨k1, k2⟩ => ?_
     have q1 := (Qkk ht).2 d k1
     have q2 := (QlL hf hb hy).2.2.2 d k2
     rw [q1] at q2; cases q2
  ·obtain ⟨g, hg, hs⟩ := QrX (p := p) hb (fun g hg => hl g (by simp [hg])) (QgR r t y hy)
   have hz' : Sub z f := by
    cases ht : Qa9 f r with
    | false => rw [ht] at hz; simp at hz; subst hz; exact Sub.rfl' z
    | true =>
     rw [ht] at hz
     simp only [if_true] at hz
     rcases QrP hz with hz | ⟨_, hz⟩
     ·exact (QlL hf hb hz).1
     ·rw [hz]; exact (Qkk ht).1
   exact (h1.1 g hg).sub hz' hs
theorem Qqh {r : Rv} : ∀ {l : List Fl}, Qfk r l = 0 → ∀ f ∈ l, Qa9 f r = false
 | [], _, f, h => by simp at h
 | g :: t, h, f, hf => by
  unfold Qfk at h
  cases hg : Qa9 g r with
  | true => rw [hg] at h; simp at h
  | false =>
   rcases List.mem_cons.1 hf with rfl | hf
   ·exact hg
   ·exact Qqh (by rw [hg] at h; simpa using h) f hf
theorem QwE {f : Fl} {r : Rv} (h : Qa9 f r = false) : Dis f (Qd3 r) := fun h1 h2 d ⟨h3, h4⟩ => by
 rw [(QrY f r).2 ⟨h1, h2, d, h3, h4⟩] at h; cases h
theorem QtV {r : Rv} (hk : r.kind ≠ 2) {f : Fl} (ht : Qa9 f r = true) : ∀ {l : List Fl}, f ∈ l → QaI r f (qOf f r) ∈ newR r l
 | g :: t, h => by
  unfold newR
  rcases List.mem_cons.1 h with rfl | h
  ·simp [ht, hk]
  ·exact List.mem_append.2 (.inr (QtV hk ht h))
structure Res (p : Pc) (l : List Fl) (r : Rv) (x : List Fl) : Prop where
 per : perE r.fr r.to r.days = 0
 kind : 1 ≤ r.kind ∧ r.kind ≤ 5
 ok : Qeq p [] x = []
 old : ∀ z ∈ x, From2 r l z ∨ (r.kind = 1 ∧ z = Qd3 r)
 keep : ∀ z ∈ outR r l, z ∈ x
 new : r.kind = 1 → Qd3 r ∈ x
theorem QzJ {p : Pc} {l : List Fl} {r : Rv} (hl : Qeq p [] l = []) (h0 : (resF p l r).2 = 0) : Res p l r (resF p l r).1 := by
 obtain ⟨hc, hd⟩ := Qdv.1 hl
 have chk : ∀ {out new : List Fl}, (chkR p out new).2 = 0 → (∀ g ∈ new, QaE p g = []) ∧ (chkR p out new).1 = out := fun {out new} h => by
  unfold chkR at h ⊢
  cases hb : QcS p new with
  | none => exact ⟨Qiq hb, rfl⟩
  | some e =>
   rw [hb] at h
   simp only at h
   exfalso
   have : ∀ (t : List Fl) (e : Int), QcS p t = some e → e ≠ 0 := fun t => by
    induction t with
    | nil => intro e h; cases h
    | cons g t ih =>
     intro e h
     unfold QcS at h
     cases hg : QaE p g with
     | nil => rw [hg] at h; exact ih e h
     | cons a s =>
      rw [hg] at h
      simp only [Option.some.injEq] at h
      rw [← h]
      exact Qsk (p := p) (f := g) (by rw [hg]; simp)
   exact this new e hb h
 have good : perE r.fr r.to r.days = 0 → (∀ g ∈ newR r l, QaE p g = []) → ∀ z ∈ outR r l, QaE p z = [] := fun hb hn z hz => by
  rcases QgR r l z hz with ⟨h1, _⟩ | ⟨f, h1, _, h2⟩ | ⟨hk, f, h1, h2, h3⟩
  ·exact hc z h1
  ·obtain ⟨k1, k2, k3, _⟩ := QlL (Qmx (hc f h1)) hb h2
   exact Qw3 k3 k2 k1 (hc f h1)
  ·exact hn z (by rw [h3]; exact QtV hk h2 h1)
 unfold resF at h0 ⊢
 split at h0
 ·simp at h0
 ·rename_i hk
  rw [if_neg hk]
  split at h0
  ·rename_i hp; exact absurd h0 hp
  ·rename_i hp
   rw [if_neg hp]
   have hp : perE r.fr r.to r.days = 0 := Decidable.not_not.1 hp
   split at h0
   ·rename_i h1
    rw [if_pos h1]
    split at h0
    ·rename_i hm
     rw [if_pos hm]
     obtain ⟨hn, e⟩ := chk h0
     rw [e]
     have ht := Qqh hm
     refine ⟨hp, by omega, Qdv.2 ⟨fun z hz => ?_, ?_⟩, fun z hz => ?_, fun z hz => by simp [hz], fun _ => by simp⟩
     ·rcases List.mem_append.1 hz with hz | hz
      ·exact good hp (fun g hg => hn g (by simp [hg])) z hz
      ·simp at hz; subst hz; exact hn _ (by simp)
     ·refine List.pairwise_append.2 ⟨Qpi hp hc hd, by simp, fun z hz y hy => ?_⟩
      simp at hy; subst hy
      rw [(Qo1 r l hm).1] at hz
      exact QwE (ht z hz)
     ·rcases List.mem_append.1 hz with hz | hz
      ·exact .inl (QgR r l z hz)
      ·simp at hz; exact .inr ⟨h1, hz⟩
    ·simp at h0
   ·rename_i h1
    rw [if_neg h1]
    split at h0
    ·simp at h0
    ·rename_i hm
     rw [if_neg hm]
     obtain ⟨hn, e⟩ := chk h0
     rw [e]
     exact ⟨hp, by omega, Qdv.2 ⟨good hp hn, Qpi hp hc hd⟩, fun z hz => .inl (QgR r l z hz), fun z hz => hz, fun h => absurd h h1⟩
end Go.Proofs
set_option linter.unusedSimpArgs false
set_option linter.unusedVariables false
namespace Go.Proofs
open Go.Am
variable (lb : Nat)
theorem Qi2 {car : Bs} {num day : Int} {f : Fl} : onB car num day f = true ↔ f.car = car ∧ f.num = num ∧ Qha f day = true := by
 unfold onB
 rw [Bool.and_eq_true, Bool.and_eq_true, beq_iff_eq, beq_iff_eq]
 rfl
theorem Qs7 {car : Bs} {num day : Int} {z : Fl} (ho : onB car num day z = true) : ∀ {l : List Fl}, l.Pairwise Dis → z ∈ l → QbN car num day l = some z
 | f :: t, hd, hz => by
  have h1 := List.pairwise_cons.1 hd
  unfold QbN
  rcases List.mem_cons.1 hz with rfl | hz
  ·rw [if_pos ho]
  ·cases hf : onB car num day f with
   | true =>
    obtain ⟨a1, a2, a3⟩ := Qi2.1 hf
    obtain ⟨b1, b2, b3⟩ := Qi2.1 ho
    exact absurd ⟨a3, b3⟩ (h1.1 z hz (a1.trans b1.symm) (a2.trans b2.symm) day)
   | false => simp only [Bool.false_eq_true, if_false]; exact Qs7 ho h1.2 hz
theorem Qms {car : Bs} {num day : Int} : ∀ {l : List Fl}, QbN car num day l = none ↔ ∀ f ∈ l, onB car num day f = false
 | [] => by simp [QbN]
 | f :: t => by
  unfold QbN
  cases hf : onB car num day f with
  | true => simp [hf]
  | false => simp [hf, Qms (l := t)]
def QhY (o : Option Fl) : List Lg := (o.getD fl0).legs
def QtJ (l x : List Fl) (car : Bs) (num day : Int) : Bool := ((QbN car num day l).isSome == (QbN car num day x).isSome) && lgsB (QhY (QbN car num day l)) (QhY (QbN car num day x))
theorem Qr3 {l : List Fl} {car : Bs} {num day : Int} (h : ∀ f ∈ l, f.legs.length ≤ 1000) : (QhY (QbN car num day l)).length ≤ 1000 := by
 unfold QhY
 cases hf : QbN car num day l with
 | none => simp [fl0]
 | some f => exact h f (Qm7 hf).1
theorem Qw8 {p : Pc} {l x : List Fl} {r : Rv} {day : Int} (hl : Qeq p [] l = []) (R : Res p l r x) {car : Bs} {num : Int} (hno : ¬ (car = r.car ∧ num = r.num ∧ hasF r.fr r.to r.days day = true)) : QtJ l x car num day = true := by
 have hx := Qdv.1 R.ok
 have hc := Qdv.1 hl
 unfold QtJ
 cases hf : QbN car num day l with
 | some g =>
  obtain ⟨hg, ho⟩ := Qm7 hf
  have ⟨o1, o2, o3⟩ := Qi2.1 ho
  have : ∃ z ∈ x, onB car num day z = true ∧ z.legs = g.legs := by
   cases ht : Qa9 g r with
   | false => exact ⟨g, R.keep g (QpE ht hg), ho, rfl⟩
   | true =>
    obtain ⟨t1, t2, _⟩ := (QrY g r).1 ht
    have hn : hasF r.fr r.to r.days day = false := by
     cases hh : hasF r.fr r.to r.days day with
     | false => rfl
     | true => exact absurd ⟨o1.symm.trans t1, o2.symm.trans t2, hh⟩ hno
    obtain ⟨w, hw, hq⟩ := Qsw R.per o3 hn
    exact ⟨Qjq g w, R.keep _ (Qsm ht (List.mem_map.2 ⟨w, hw, rfl⟩) hg), Qi2.2 ⟨o1, o2, hq⟩, rfl⟩
  obtain ⟨z, hz, hzo, hzl⟩ := this
  rw [Qs7 hzo hx.2 hz]
  show ((true == true) && lgsB g.legs z.legs) = true
  rw [hzl, QrC]; rfl
 | none =>
  have h0 := Qms.1 hf
  have : QbN car num day x = none := Qms.2 fun z hz => by
   cases hzo : onB car num day z with
   | false => rfl
   | true =>
    obtain ⟨o1, o2, o3⟩ := Qi2.1 hzo
    rcases R.old z hz with h | ⟨_, h⟩
    ·obtain ⟨f, hf, s1, s2, s3⟩ := QrX (p := p) R.per hc.1 h
     have := h0 f hf
     rw [Qi2.2 ⟨s1.symm.trans o1, s2.symm.trans o2, s3 day o3⟩] at this
     cases this
    ·subst h
     exact absurd ⟨o1.symm, o2.symm, o3⟩ hno
  rw [this]
  rfl
theorem QyN {p : Pc} {l : List Fl} {r : Rv} (h : (resF p l r).2 ≠ 0) : (resF p l r).1 = [] := by
 have hc : ∀ out new, (chkR p out new).2 ≠ 0 → (chkR p out new).1 = [] := fun out new h => by
  unfold chkR at h ⊢
  cases hb : QcS p new with
  | none => rw [hb] at h; exact absurd rfl h
  | some e => rfl
 revert h
 unfold resF
 split
 ·intro; rfl
 ·split
  ·intro; rfl
  ·split
   ·split
    ·exact hc _ _
    ·intro; rfl
   ·split
    ·intro; rfl
    ·exact hc _ _
end Go.Proofs
set_option linter.unusedSimpArgs false
set_option linter.unusedVariables false
set_option maxRecDepth 100000
namespace Go.Proofs
open Go.Am
variable (lb : Nat)
theorem QvB (lb n : Nat) : Qpx Tryz.prog KK (L lb) (n + 60) Qdc [] = some (.bool true) := by kernel_rfl
theorem QoJ : Ret lb Qdc [] (.bool true) := Evt.from 60 fun n => by
 show Qdg Tryz.prog KK (L lb) (n + 60) Qdc [] = _
 rw [Qtq]
 exact QvB lb n
def QnM (p : Pc) : Bool := decide (p.aps.length ≤ 12) && (decide (p.dis.length ≤ 20) && (Qi0 p).isEmpty)
theorem Ql8 (p : Pc) (hp : ArgP p) : Ret lb Qf5 [pcv p] (.bool (QnM p)) := by
 unfold QnM
 by_cases h1 : p.aps.length ≤ 12
 ·by_cases h2 : p.dis.length ≤ 20
  ·refine .top rfl ((QsP lb p (by omega) (by omega) hp.2.2).mono fun n hn => ?_)
   rw [QfB, decT h1, decT h2]
   refine stT (decT (by rw [List.length_map]; omega)) (stT (decT (by rw [List.length_map]; omega)) (stO _ hn (stO _ rfl ?_)))
   rw [Qz5]
   rfl
  ·refine .top rfl (.all fun n => ?_)
   rw [QfB, decT h1, decF h2]
   exact stT (decT (by rw [List.length_map]; omega)) (stF (decF (by rw [List.length_map]; omega)) rfl)
 ·refine .top rfl (.all fun n => ?_)
  rw [QfB, decF h1]
  exact stF (decF (by rw [List.length_map]; omega)) rfl
theorem QxB (z : Int) (h0 : -9223372036854775808 ≤ z) (h1 : z ≤ 9223372036854775807) : Ret lb QeA [.int .i64 z] (.str (Lib.itoa z)) :=
 .lib (s := Qhz) rfl (by simp only [Qhz, if_pos (And.intro h0 h1), QoU h0 h1])
theorem Qyu (p : Pc) (bn : Bool) (l : List Fl) (q : List Fl) (f : Fl) (t0 : List Fl) (hq : q ++ f :: t0 = l) (hql : q.length ≤ 1000) (hd : ∀ g ∈ q, Dis g f) (b : Bool) (H : List (List CV)) (s : Bs) (c208 : List CV) (yC : CV) : ∀ (t u : List Fl), u ++ t = q → Evt fun n => ∀ k k0, t.length < k →
  QcZ lb n k p.an (p.aps.map apcv) p.dn (p.dis.map dicv) bn (l.map flE) b H (q.length : Int) s c208 (.str f.car) (.int .i64 f.num) (.int .i64 f.fr) (.int .i64 f.to) (.int .i64 f.days) (.list f.ln (f.legs.map lgcv)) yC k0 (u.length : Int) = Qf1 lb n p.an (p.aps.map apcv) p.dn (p.dis.map dicv) bn (l.map flE) b H (q.length : Int) s c208 (.str f.car) (.int .i64 f.num) (.int .i64 f.fr) (.int .i64 f.to) (.int .i64 f.days) (.list f.ln (f.legs.map lgcv)) yC k0
 | [], u, h => by
  refine .all fun n k k0 hk => ?_
  obtain ⟨k, rfl⟩ : ∃ m, k = m + 1 := ⟨k - 1, by simp at hk; omega⟩
  have hu : u = q := by simpa using h
  have e : (((l.map flE).take (q.length : Int).toNat).drop 0).length = q.length := by rw [← hq]; simp
  rw [Qgn, hu]
  exact stF (decF (by rw [e]; omega)) rfl
 | x :: t, u, h => by
  have hl : q.length = u.length + (t.length + 1) := by rw [← h]; simp
  have hw1 : IntKind.wrap .i64 ((u.length : Int) + 1) = ((u ++ [x]).length : Int) := by rw [QaF (by omega) (by omega)]; simp
  have e1 : ((l.map flE).take (q.length : Int).toNat).drop 0 = q.map flE := by rw [← hq]; simp
  have e : (((l.map flE).take (q.length : Int).toNat).drop 0).length = q.length := by rw [e1]; simp
  have hx : (((l.map flE).take (q.length : Int).toNat).drop 0)[u.length]? = some (flE x) := by rw [e1, ← h]; simp
  have hdx := (Qm3 x f).2 (hd x (by rw [← h]; simp))
  refine Evt.imp2 (Qhi lb x.fr x.to x.days f.fr f.to f.days) (Qyu p bn l q f t0 hq hql hd b H s c208 yC t (u ++ [x]) (by rw [← h]; simp)) fun n hm hi k k0 hk => ?_
  obtain ⟨k, rfl⟩ : ∃ m, k = m + 1 := ⟨k - 1, by simp at hk; omega⟩
  have hi := hi k k0 (by simp at hk; omega)
  rw [Qgn, hw1]
  refine stT (decT (by rw [e]; omega)) (stO _ (Qa0 hx) (stC rfl (stO _ rfl (stO _ rfl (stO _ rfl (stO _ rfl (stO _ rfl (stO _ rfl (stO _ (Qa1 _) (stO _ (Qa1 _) ?_))))))))))
  unfold QcE at hdx
  cases c1 : x.car == f.car with
  | false => exact stT rfl hi
  | true =>
   refine stF rfl (stO _ (QaG ..) (stO _ (QaG ..) ?_))
   by_cases c2 : x.num = f.num
   ·refine stF (bneF c2) (stO _ hm ?_)
    rw [c1, beqT c2] at hdx
    cases hmm : Qdh x.fr x.to x.days f.fr f.to f.days with
    | some w => rw [hmm] at hdx; cases hdx
    | none => exact stO _ rfl (stO _ rfl (stO _ rfl (stO _ rfl (stO _ rfl (stC rfl (stO _ rfl (stO _ rfl (stO _ rfl (stO _ rfl (stF rfl hi))))))))))
   ·exact stT (bneT c2) hi
theorem Qyw (p : Pc) (hp : Qca p) (bn : Bool) (l : List Fl) (hl : ∀ f ∈ l, QqB f ∧ QaE p f = []) (hd : l.Pairwise Dis) (hll : l.length ≤ 1000) : ∀ (t q : List Fl), q ++ t = l → Evt fun n => ∀ k, t.length < k →
  schedule_Check_L1 lb n k p.an (p.aps.map apcv) p.dn (p.dis.map dicv) bn (l.map flE) true [] (q.length : Int) = some (.list true [])
 | [], q, h => by
  refine .all fun n k hk => ?_
  obtain ⟨k, rfl⟩ : ∃ m, k = m + 1 := ⟨k - 1, by simp at hk; omega⟩
  have hu : q = l := by simpa using h
  rw [Qgi, hu]
  refine stF (decF (by simp)) ?_
  rw [Qlm]
 | f :: t, q, h => by
  have hlen : l.length = q.length + (t.length + 1) := by rw [← h]; simp
  have hw1 : IntKind.wrap .i64 ((q.length : Int) + 1) = ((q ++ [f]).length : Int) := by rw [QaF (by omega) (by omega)]; simp
  obtain ⟨⟨g1, g2⟩, g3⟩ := hl f (by rw [← h]; simp)
  have hit := Qea (z := (q.length : Int)) (by omega) (by omega)
  have hdq : ∀ g ∈ q, Dis g f := by
   rw [← h] at hd
   exact fun g hg => (List.pairwise_append.1 hd).2.2 g hg f (by simp)
  have fc := QgF lb p hp f (by omega) (fun x hx => by have := g2 x hx; omega)
  rw [g3] at fc
  have q4 := Qyu lb p bn l q f t h (by omega) hdq true [] (Lib.itoa (q.length : Int)) (flE f) (.str (Lib.itoa (q.length : Int))) q [] rfl
  refine Evt.imp2 ((QxB lb (q.length : Int) (by omega) (by omega)).and (fc.and (Evt.ge 1100))) (Evt.and q4 (Qyw p hp bn l hl hd hll t (q ++ [f]) (by rw [← h]; simp))) fun n ⟨a1, a2, a3⟩ ⟨a4, hi⟩ k hk => ?_
  obtain ⟨k, rfl⟩ : ∃ m, k = m + 1 := ⟨k - 1, by simp at hk; omega⟩
  have hi := hi k (by simp at hk; omega)
  have a4 := a4 n k (by omega)
  rw [Qgi]
  refine stT (decT (by simp; omega)) (stO _ (Qa0 (Qd2 h)) (stC rfl (stO _ rfl (stO _ rfl (stO _ rfl (stO _ rfl (stO _ rfl (stO _ rfl (stO _ a1 (stO _ rfl (stC (decT (by simp; omega)) (stO _ a2 (stO _ rfl ?_)))))))))))))
  obtain ⟨m, hm⟩ : ∃ m, n = m + 1 := ⟨n - 1, by omega⟩
  have z : ∀ r, Qf4 lb n k p.an (p.aps.map apcv) p.dn (p.dis.map dicv) bn (l.map flE) (q.length : Int) (Lib.itoa (q.length : Int)) (flE f) (.str f.car) (.int .i64 f.num) (.int .i64 f.fr) (.int .i64 f.to) (.int .i64 f.days) (.list f.ln (f.legs.map lgcv)) (.str (Lib.itoa (q.length : Int))) true [] = r →
    Qee lb n n k p.an (p.aps.map apcv) p.dn (p.dis.map dicv) bn (l.map flE) (q.length : Int) (Lib.itoa (q.length : Int)) (flE f) (.str f.car) (.int .i64 f.num) (.int .i64 f.fr) (.int .i64 f.to) (.int .i64 f.days) (.list f.ln (f.legs.map lgcv)) (.str (Lib.itoa (q.length : Int))) (QbV []) (true, []) true [] 0 = r := fun r h => by
   rw [hm] at h ⊢
   rw [Qkh]
   exact stF (decF (by simp)) h
  refine z _ ?_
  rw [Qly]
  refine stC (by simp [flE]) (stC (decT (by simp; omega)) (a4.trans ?_))
  rw [Qlj, Qlb, hw1]
  exact hi
theorem QmE (p : Pc) (hp : Qca p) (bn : Bool) (l : List Fl) (hl : ∀ f ∈ l, QqB f) (hs : Qeq p [] l = []) (hll : l.length ≤ 1000) : Ret lb Qac [pcv p, .list bn (l.map flE)] (.list true []) := by
 obtain ⟨h1, h2⟩ := Qdv.1 hs
 refine .top rfl ((Evt.diag (Qyw lb p hp bn l (fun f hf => ⟨hl f hf, h1 f hf⟩) h2 hll l [] rfl)).mono fun n h => ?_)
 rw [QnY]
 exact h
def difF (l x : List Fl) (car : Bs) (num d : Int) : Bool := !QtJ l x car num d
theorem QrJ (an bn : Bool) (l x : List Fl) (hl : ∀ f ∈ l, f.legs.length ≤ 1000) (hx : ∀ f ∈ x, f.legs.length ≤ 1000) (hll : l.length ≤ 1000000) (hxl : x.length ≤ 1000000) (car : Bs) (num fr tq days : Int) (D : List Int) (hD : D.length ≤ 1000) (b0 : Bool) : ∀ (t u : List Int), u ++ t = D → Evt fun n => ∀ k, t.length < k →
  QbP lb n k an (l.map flE) bn (x.map flE) car num fr tq days (.list b0 (dcv D)) (b0, dcv D) (u.filter (difF l x car num)).isEmpty (dcv (u.filter (difF l x car num))) (u.length : Int) = some (.list (D.filter (difF l x car num)).isEmpty (dcv (D.filter (difF l x car num))))
 | [], u, h => by
  refine .all fun n k hk => ?_
  obtain ⟨k, rfl⟩ : ∃ m, k = m + 1 := ⟨k - 1, by simp at hk; omega⟩
  have hu : u = D := by simpa using h
  rw [Qf0, hu]
  refine stF (decF (by simp [dcv])) ?_
  rw [QkV]
 | d :: t, u, h => by
  have hlen : D.length = u.length + (t.length + 1) := by rw [← h]; simp
  have hw1 : IntKind.wrap .i64 ((u.length : Int) + 1) = ((u ++ [d]).length : Int) := by rw [QaF (by omega) (by omega)]; simp
  have h3 := QqL lb ((QbN car num d l).getD fl0).ln ((QbN car num d x).getD fl0).ln (QhY (QbN car num d l)) (QhY (QbN car num d x)) (Qr3 hl) (Qr3 hx)
  refine Evt.imp2 ((QjW lb an l car num d hll).and ((QjW lb bn x car num d hxl).and h3)) (QrJ an bn l x hl hx hll hxl car num fr tq days D hD b0 t (u ++ [d]) (by rw [← h]; simp)) fun n ⟨h1, h2, h3⟩ hi k hk => ?_
  obtain ⟨k, rfl⟩ : ∃ m, k = m + 1 := ⟨k - 1, by simp at hk; omega⟩
  have hi := hi k (by simp at hk; omega)
  rw [List.filter_append] at hi
  have yes : difF l x car num d = true → (chkO (CV.isCell (.int .i64 d)) (chkO (room ((dcv (u.filter (difF l x car num))).length + 1) 8) (QbP lb n k an (l.map flE) bn (x.map flE) car num fr tq days (.list b0 (dcv D)) (b0, dcv D) ((u.filter (difF l x car num)).isEmpty && false) (dcv (u.filter (difF l x car num)) ++ [[.int .i64 d]]) ((u ++ [d]).length : Int)))) = some (.list (D.filter (difF l x car num)).isEmpty (dcv (D.filter (difF l x car num)))) := fun hP => by
   have e : [d].filter (difF l x car num) = [d] := by simp [hP]
   rw [e] at hi
   refine stC rfl (stC (Qb4 ?_ (by omega)) ?_)
   ·have := List.length_filter_le (difF l x car num) u
    simp [dcv]; omega
   ·rw [QcB (u.filter (difF l x car num)) d]
    simpa [dcv] using hi
  have no : difF l x car num d = false → QbP lb n k an (l.map flE) bn (x.map flE) car num fr tq days (.list b0 (dcv D)) (b0, dcv D) (u.filter (difF l x car num)).isEmpty (dcv (u.filter (difF l x car num))) ((u ++ [d]).length : Int) = some (.list (D.filter (difF l x car num)).isEmpty (dcv (D.filter (difF l x car num)))) := fun hP => by
   have e : [d].filter (difF l x car num) = [] := by simp [hP]
   rw [e, List.append_nil] at hi
   exact hi
  rw [Qf0, hw1]
  refine stT (decT (by simp [dcv]; omega)) (stO _ (QaW ..) (stO _ (Qa0 (QgM h)) (stC rfl (stO _ rfl (stO _ h1 (stO _ rfl (stO _ rfl (stO _ rfl (stO _ rfl (stO _ rfl (stC rfl (stO _ rfl (stO _ rfl (stO _ rfl (stO _ rfl (stO _ rfl (stO _ rfl ?_)))))))))))))))))
  refine stO _ h2 (stO _ rfl (stO _ rfl (stO _ rfl (stO _ rfl (stO _ rfl (stC rfl (stO _ rfl (stO _ rfl (stO _ rfl (stO _ rfl (stO _ rfl (stO _ rfl ?_))))))))))))
  refine stO _ (QaL _) (stO _ (QaL _) ?_)
  have eA : difF l x car num d = !(((QbN car num d l).isSome == (QbN car num d x).isSome) && lgsB (QhY (QbN car num d l)) (QhY (QbN car num d x))) := rfl
  cases hs : (QbN car num d l).isSome == (QbN car num d x).isSome with
  | false => exact stT rfl (yes (by rw [eA, hs]; rfl))
  | true =>
   refine stF rfl (stO _ h3 (stO _ (QaL _) ?_))
   cases hE : lgsB (QhY (QbN car num d l)) (QhY (QbN car num d x)) with
   | false => exact stT rfl (yes (by rw [eA, hs, hE]; rfl))
   | true => exact stF rfl (no (by rw [eA, hs, hE]; rfl))
def difD (l x : List Fl) (f : Fl) : List Int := (Qar f.fr f.to f.days).filter (difF l x f.car f.num)
theorem Qmb (an bn : Bool) (l x : List Fl) (hl : ∀ f ∈ l, f.legs.length ≤ 1000) (hx : ∀ f ∈ x, f.legs.length ≤ 1000) (hll : l.length ≤ 1000000) (hxl : x.length ≤ 1000000) (f : Fl) :
  Ret lb Qbh [.list an (l.map flE), .list bn (x.map flE), .str f.car, .int .i64 f.num, .agg [.int .i64 f.fr, .int .i64 f.to, .int .i64 f.days]] (.list (difD l x f).isEmpty (dcv (difD l x f))) := by
 have hD := QgO f.fr f.to f.days
 refine .top rfl (Evt.imp2 (Qka lb f.fr f.to f.days) (Evt.diag (QrJ lb an bn l x hl hx hll hxl f.car f.num f.fr f.to f.days (Qar f.fr f.to f.days) (by omega) (Qar f.fr f.to f.days).isEmpty (Qar f.fr f.to f.days) [] rfl)) fun n h1 h2 => ?_)
 rw [QmK]
 exact stO _ h1 (stO _ (QaW ..) h2)
theorem Qyl (n k0 : Nat) (p : Pc) (bn : Bool) (l : List Fl) (r : Rv) (j1 jZ wI : CV) (q t0 : List Fl) (f : Fl) (hq : q ++ f :: t0 = l) (c1 : List CV) (x1 : CV) (c2 : List CV) (x2 : CV) (c3 : List CV) (x3 x4 x5 : CV) (b : Bool) (E : List Int) (hEl : E.length ≤ 1000)
  (hE : ∀ d ∈ E, f.car = r.car ∧ f.num = r.num ∧ hasF r.fr r.to r.days d = true)
  (hh : ∀ d ∈ E, C lb n QfA [.agg [.int .i64 r.fr, .int .i64 r.to, .int .i64 r.days], .int .i64 d] = some (.bool (hasF r.fr r.to r.days d))) : ∀ (t u : List Int) (k : Nat), u ++ t = E → t.length < k →
  Qen lb n k k0 p.an (p.aps.map apcv) p.dn (p.dis.map dicv) bn (l.map flE) r.kind r.car r.num r.fr r.to r.days r.min r.eq r.ln (r.legs.map lgcv) j1 jZ (q.length : Int) (.list b (dcv E)) wI c1 x1 c2 x2 c3 x3 x4 x5 (u.length : Int) = Qdy lb n k0 p.an (p.aps.map apcv) p.dn (p.dis.map dicv) bn (l.map flE) r.kind r.car r.num r.fr r.to r.days r.min r.eq r.ln (r.legs.map lgcv) j1 jZ wI (IntKind.wrap .i64 ((q.length : Int) + 1))
 | [], u, k, h, hk => by
  obtain ⟨k, rfl⟩ : ∃ m, k = m + 1 := ⟨k - 1, by simp at hk; omega⟩
  have hu : u = E := by simpa using h
  rw [Qgj, hu]
  refine stO _ (QaW ..) (stF (decF (by simp [dcv])) ?_)
  rw [Qlc]
 | d :: t, u, k, h, hk => by
  obtain ⟨k, rfl⟩ : ∃ m, k = m + 1 := ⟨k - 1, by simp at hk; omega⟩
  have hlen : E.length = u.length + (t.length + 1) := by rw [← h]; simp
  have hw1 : IntKind.wrap .i64 ((u.length : Int) + 1) = ((u ++ [d]).length : Int) := by rw [QaF (by omega) (by omega)]; simp
  have ih := Qyl n k0 p bn l r j1 jZ wI q t0 f hq c1 x1 c2 x2 c3 x3 x4 x5 b E hEl hE hh t (u ++ [d]) k (by rw [← h]; simp) (by simp at hk; omega)
  have hd : d ∈ E := by rw [← h]; simp
  obtain ⟨e1, e2, e3⟩ := hE d hd
  have e4 := hh d hd
  rw [e3] at e4
  rw [Qgj, hw1]
  exact stO _ (QaW ..) (stT (decT (by simp [dcv]; omega)) (stO _ (Qa0 (Qd2 hq)) (stC rfl (stO _ rfl (stO _ (Qa1 _) (stF (by rw [e1]; simp) (stO _ (Qa0 (Qd2 hq)) (stC rfl (stO _ rfl (stO _ (QaG ..) (stF (bneF e2) (stO _ (QaW ..) (stO _ (Qa0 (QgM h)) (stC rfl (stO _ rfl (stO _ e4 (stO _ (QaL _) (stF rfl ih))))))))))))))))))
theorem Qxd (p : Pc) (bn b2 : Bool) (l x : List Fl) (r : Rv) (jZ wI : CV) (hl : ∀ f ∈ l, f.legs.length ≤ 1000) (hx : ∀ f ∈ x, f.legs.length ≤ 1000) (hll : l.length ≤ 1000) (hxl : x.length ≤ 1000000)
  (hE : ∀ f ∈ l, ∀ d ∈ difD l x f, f.car = r.car ∧ f.num = r.num ∧ hasF r.fr r.to r.days d = true) : ∀ (t q : List Fl), q ++ t = l → Evt fun n => ∀ k, t.length < k →
  Qdy lb n k p.an (p.aps.map apcv) p.dn (p.dis.map dicv) bn (l.map flE) r.kind r.car r.num r.fr r.to r.days r.min r.eq r.ln (r.legs.map lgcv) (.list b2 (x.map flE)) jZ wI (q.length : Int) = some (.bool true)
 | [], q, h => by
  refine (QoJ lb).mono fun n aw k hk => ?_
  obtain ⟨k, rfl⟩ : ∃ m, k = m + 1 := ⟨k - 1, by simp at hk; omega⟩
  have hu : q = l := by simpa using h
  rw [Qf9, hu]
  refine stF (decF (by simp)) ?_
  rw [Qlq]
  exact stO _ aw rfl
 | f :: t, q, h => by
  have hlen : l.length = q.length + (t.length + 1) := by rw [← h]; simp
  have hw1 : IntKind.wrap .i64 ((q.length : Int) + 1) = ((q ++ [f]).length : Int) := by rw [QaF (by omega) (by omega)]; simp
  have hf : f ∈ l := by rw [← h]; simp
  have hD := QgO f.fr f.to f.days
  have hDl : (difD l x f).length ≤ 1000 := by
   have := List.length_filter_le (difF l x f.car f.num) (Qar f.fr f.to f.days)
   unfold difD; omega
  refine Evt.imp2 ((Qmb lb bn b2 l x hl hx (by omega) hxl f).and ((Evt.fin (difD l x f) fun d _ => Qk6 lb r.fr r.to r.days d).and (Evt.ge 1100))) (Qxd p bn b2 l x r jZ wI hl hx hll hxl hE t (q ++ [f]) (by rw [← h]; simp)) fun n ⟨h1, h2, h3⟩ hi k hk => ?_
  obtain ⟨k, rfl⟩ : ∃ m, k = m + 1 := ⟨k - 1, by simp at hk; omega⟩
  have hi := hi k (by simp at hk; omega)
  rw [← hw1] at hi
  have z := Qyl lb n k p bn l r (.list b2 (x.map flE)) jZ wI q t f h (flE f) (.str f.car) (flE f) (.int .i64 f.num) (flE f) (.int .i64 f.fr) (.int .i64 f.to) (.int .i64 f.days) (difD l x f).isEmpty (difD l x f) hDl (hE f hf) h2 (difD l x f) [] n rfl (by omega)
  rw [Qf9]
  exact stT (decT (by simp; omega)) (stO _ (Qa0 (Qd2 h)) (stC rfl (stO _ rfl (stO _ (Qa0 (Qd2 h)) (stC rfl (stO _ rfl (stO _ (Qa0 (Qd2 h)) (stC rfl (stO _ rfl (stO _ rfl (stO _ rfl (stO _ h1 (z.trans hi)))))))))))))
theorem QsV (p : Pc) (hp : ArgP p) (bn : Bool) (l : List Fl) (hl : ArgL l) (r : Rv) (hr : ArgR r) (hq : ∀ f ∈ l, ∀ x ∈ f.legs, x.eq.length ≤ 281474976710656) (hre : r.eq.length ≤ 281474976710656) (hrl : ∀ x ∈ r.legs, x.eq.length ≤ 281474976710656) : Ret lb Qap [pcv p, .list bn (l.map flE), rvcv r] (.bool true) := by
 have aw := QoJ lb
 have sp := Ql8 lb p hp
 cases hS : QnM p with
 | false =>
  refine .top rfl (Evt.imp2 sp aw fun n h1 h2 => ?_)
  rw [QcX]
  exact stO _ h1 (stO _ rfl (stT (by rw [hS]; rfl) (stO _ h2 rfl)))
 | true =>
  have hS' := hS
  unfold QnM at hS'
  simp only [Bool.and_eq_true, decide_eq_true_eq, List.isEmpty_iff] at hS'
  obtain ⟨p1, p2, p3⟩ := hS'
  have r1 := Qrr (p := p) (by omega) p3
  by_cases c1 : l.length > 8
  ·refine .top rfl (Evt.imp2 sp aw fun n h1 h2 => ?_)
   rw [QcX]
   exact stO _ h1 (stO _ rfl (stF (by rw [hS]; rfl) (stT (decT (by simp; omega)) (stO _ h2 rfl))))
  ·by_cases c2 : r.legs.length > 8
   ·refine .top rfl (Evt.imp2 sp aw fun n h1 h2 => ?_)
    rw [QcX]
    exact stO _ h1 (stO _ rfl (stF (by rw [hS]; rfl) (stF (decF (by simp; omega)) (stT (decT (by simp; omega)) (stO _ h2 rfl)))))
   ·have good : ∀ f ∈ l, QqB f := fun f hf => ⟨(hl.2 f hf).1.1, hq f hf⟩
    have h8 := QsY lb p r1 bn l good (by omega)
    by_cases hsch : Qeq p [] l = []
    ·have hc := (Qdv.1 hsch).1
     have r2 : ∀ f ∈ l, OkF f := fun f hf => by
      obtain ⟨k1, k2, _⟩ := QiY (hc f hf)
      have hne : f.legs ≠ [] := fun e => by rw [e] at k2; simp at k2
      exact ⟨Qrb (hl.2 f hf).2 hne, hne, by omega, (good f hf).1, (good f hf).2⟩
     have s1 : OkR r := ⟨hr.1, hre, hrl⟩
     have a1 := Qm5 lb p r1 r s1 bn l r2 (by omega)
     rw [Qx8] at a1
     have rl := QyB p l r
     rw [hsch] at h8
     by_cases h0 : (resF p l r).2 = 0
     ·have R := QzJ (r := r) hsch h0
      have ok := Qy4 (p := p) r2 (⟨s1, by omega, hr.2.2.2⟩ : SmR r)
      have hx : ∀ z ∈ (resF p l r).1, z.legs.length ≤ 1000 := fun z hz => by have := (ok z hz).len; omega
      have sc := QmE lb p r1 (resF p l r).1.isEmpty (resF p l r).1 (fun z hz => ⟨(ok z hz).car, (ok z hz).eq⟩) R.ok (by omega)
      have lp := (Qxd lb p bn (resF p l r).1.isEmpty l (resF p l r).1 r (.int .i64 (resF p l r).2) (QeZ (resF p l r)) (fun f hf => by have := (r2 f hf).len; omega) hx (by omega) (by omega) (fun f hf d hd => by
       have hd2 := (List.mem_filter.1 hd).2
       by_cases c : f.car = r.car ∧ f.num = r.num ∧ hasF r.fr r.to r.days d = true
       ·exact c
       ·have := Qw8 hsch R c
        unfold difF at hd2
        rw [this] at hd2; cases hd2) l [] rfl).diag
      refine .top rfl (Evt.imp2 (sp.and (Evt.and h8 a1)) (sc.and lp) fun n ⟨h1, h2, h3⟩ ⟨h4, h5⟩ => ?_)
      rw [QcX]
      exact stO _ h1 (stO _ rfl (stF (by rw [hS]; rfl) (stF (decF (by simp; omega)) (stF (decF (by simp; omega)) (stO _ h2 (stO _ rfl (stF rfl (stO _ h3 (stO _ rfl (stO _ rfl (stO _ rfl (stO _ rfl (stO _ (QaG ..) (stF (bneF h0) (stO _ h4 (stO _ rfl (stF rfl h5)))))))))))))))))
     ·have e := QyN h0
      refine .top rfl (Evt.imp2 (sp.and (Evt.and h8 a1)) aw fun n ⟨h1, h2, h3⟩ h4 => ?_)
      rw [QcX]
      refine stO _ h1 (stO _ rfl (stF (by rw [hS]; rfl) (stF (decF (by simp; omega)) (stF (decF (by simp; omega)) (stO _ h2 (stO _ rfl (stF rfl (stO _ h3 (stO _ rfl (stO _ rfl (stO _ rfl (stO _ rfl (stO _ (QaG ..) (stT (bneT h0) ?_))))))))))))))
      rw [e]
      exact stO _ rfl (stT rfl (stO _ h4 rfl))
    ·refine .top rfl (Evt.imp2 (sp.and h8) aw fun n ⟨h1, h2⟩ h4 => ?_)
     rw [QcX]
     refine stO _ h1 (stO _ rfl (stF (by rw [hS]; rfl) (stF (decF (by simp; omega)) (stF (decF (by simp; omega)) (stO _ h2 (stO _ rfl (stT ?_ (stO _ h4 rfl))))))))
     rw [Qy5]
     cases hs : Qeq p [] l with
     | nil => exact absurd hs hsch
     | cons a b => rfl
end Go.Proofs
