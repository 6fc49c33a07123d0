/- Chapter 10: the law RevisionTouches on plain data. Conditions: as each says. -/
import Derived.Test.YtdcpdknginpohaaGreatDoorNB
import Derived.Test.YtdcpdknginpohaaGreatDoorVe
import Derived.Test.YtdcpdknginpohaaGreatDoorVh
import Derived.Test.YtdcpdknginpohaaGreatDoorKj
import Derived.Test.YtdcpdknginpohaaGreatDoorVf
set_option linter.unusedSimpArgs false
set_option linter.unusedVariables false
namespace Go.Proofs
open Go.Am
variable (lb : Nat)
def onB (car : Bs) (num day : Int) (f : Fl) : Bool := (f.car == car) && ((f.num == num) && hasF f.fr f.to f.days day)
def QbG (car : Bs) (num day : Int) : List Fl → Option Fl
 | [] => none
 | f :: t => if onB car num day f then some f else QbG car num day t
def fl0 : Fl := ⟨[], 0, 0, 0, 0, true, []⟩
def onV (o : Option Fl) : CV := .tup [.agg (flE (o.getD fl0)), .bool o.isSome]
theorem QmO {car : Bs} {num day : Int} : ∀ {l : List Fl} {f : Fl}, QbG car num day l = some f → f ∈ l ∧ onB car num day f = true
 | [], f, h => by simp [QbG] at h
 | x :: t, f, h => by
  unfold QbG at h
  split at h
  ·rename_i hx; simp at h; subst h; exact ⟨by simp, hx⟩
  ·obtain ⟨a, b⟩ := QmO h
   exact ⟨by simp [a], b⟩
theorem Qwv (bn : Bool) (l : List Fl) (car : Bs) (num day : Int) (hll : l.length ≤ 1000000) : ∀ (t u : List Fl), u ++ t = l → Evt fun n => ∀ k, t.length < k →
  r08_On_L1 lb n k bn (l.map flE) car num day (u.length : Int) = some (onV (QbG car num day t))
 | [], u, h => by
  refine .all fun n k hk => ?_
  obtain ⟨k, rfl⟩ : ∃ m, k = m + 1 := ⟨k - 1, by simp at hk; omega⟩
  have hu : u = l := by simpa using h
  rw [QkU, hu]
  refine stF (decF (by simp)) ?_
  rw [Quf]
  rfl
 | f :: t, u, h => by
  have hlen : l.length = u.length + (t.length + 1) := by rw [← h]; simp
  have hw1 : IntKind.wrap .i64 ((u.length : Int) + 1) = ((u ++ [f]).length : Int) := by rw [QaB (by omega) (by omega)]; simp
  refine Evt.imp2 (Qf3 lb f.fr f.to f.days day) (Qwv bn l car num day hll t (u ++ [f]) (by rw [← h]; simp)) fun n hm hi k hk => ?_
  obtain ⟨k, rfl⟩ : ∃ m, k = m + 1 := ⟨k - 1, by simp at hk; omega⟩
  have hi := hi k (by simp at hk; omega)
  have at_ := Qa5 (Qf5 h)
  unfold QbG onB
  rw [QkU, hw1]
  refine stT (decT (by simp; omega)) (stO _ at_ (stC rfl (stO _ rfl (stO _ rfl ?_))))
  cases h1 : f.car == car with
  | false => exact stF rfl (by simpa using hi)
  | true =>
   refine stT rfl (stO _ at_ (stC rfl (stO _ rfl (stO _ (QaH ..) ?_))))
   cases h2 : f.num == num with
   | false => exact stF rfl (by simpa using hi)
   | true =>
    refine stT rfl (stO _ at_ (stC rfl (stO _ rfl (stO _ rfl (stO _ rfl (stO _ hm (stO _ (QaF _) ?_)))))))
    cases h3 : hasF f.fr f.to f.days day with
    | false => exact stF rfl (by simpa using hi)
    | true => exact stT rfl (stO _ at_ (stC rfl (stO _ rfl (stO _ rfl (stO _ rfl (stO _ rfl (stO _ rfl (stO _ rfl rfl))))))))
theorem Qlk (bn : Bool) (l : List Fl) (car : Bs) (num day : Int) (hll : l.length ≤ 1000000) : Ret lb Qcy [.list bn (l.map flE), .str car, .int .i64 num, .int .i64 day] (onV (QbG car num day l)) :=
 .top rfl ((Evt.diag (Qwv lb bn l car num day hll l [] rfl)).mono fun n h => by rw [Qwr]; exact h)
end Go.Proofs
set_option linter.unusedSimpArgs false
set_option linter.unusedVariables false
namespace Go.Proofs
open Go.Am
theorem QzU : ∀ (d : Fin 128) (w v : Fin 7), (orB ((d.val : Nat) : Int) w.val / 2 ^ v.val % 2 == 1) = ((((d.val : Nat) : Int) / 2 ^ v.val % 2 == 1) || decide (w.val = v.val)) := by decide +kernel
theorem Qzn {acc e d : Int} (h0 : 0 ≤ acc ∧ acc < 128) (he : 0 ≤ e) (hd : 0 ≤ d) : onF (orB acc (QaV e).toNat) d = (onF acc d || decide (QaV e = QaV d)) := by
 obtain ⟨h1, h2⟩ := Qcq he
 obtain ⟨h3, h4⟩ := Qcq hd
 obtain ⟨a, rfl⟩ := Int.eq_ofNat_of_zero_le h0.1
 obtain ⟨w, hw⟩ := Int.eq_ofNat_of_zero_le h1
 obtain ⟨v, hv⟩ := Int.eq_ofNat_of_zero_le h3
 unfold onF
 rw [hw, hv]
 have := QzU ⟨a, by omega⟩ ⟨w, by omega⟩ ⟨v, by omega⟩
 have e2 : decide (((w : Nat) : Int) = (v : Nat)) = decide (w = v) := by
  by_cases h : w = v
  ·simp [h]
  ·rw [decide_eq_false h, decide_eq_false (by omega)]
 rw [e2]
 exact this
theorem QtL {d : Int} (hd : 0 ≤ d) : ∀ (l : List Int) (acc : Int), (∀ e ∈ l, 0 ≤ e) → 0 ≤ acc ∧ acc < 128 → onF (QbT acc l) d = (onF acc d || l.any fun e => decide (QaV e = QaV d))
 | [], acc, _, _ => by simp [QbT]
 | e :: l, acc, h, h0 => by
  have he := h e (by simp)
  simp only [QbT, List.any_cons]
  rw [QtL hd l _ (fun x hx => h x (by simp [hx])) (QrP h0 he), Qzn h0 he hd, Bool.or_assoc]
theorem Qt7 : ∀ (l : List Int), Asc l → ∀ e ∈ l, e ≤ l.getLast?.getD 0
 | [], _, e, he => by simp at he
 | [x], _, e, he => by simp at he; simp [he]
 | x :: y :: t, h, e, he => by
  have h1 := List.pairwise_cons.1 h
  have ih := Qt7 (y :: t) h1.2
  rw [List.getLast?_cons_cons]
  rcases List.mem_cons.1 he with rfl | he
  ·have := h1.1 y (by simp)
   have := ih y (by simp)
   omega
  ·exact ih e he
theorem QxY : ∀ (l : List Int), l ≠ [] → l.getLast?.getD 0 ∈ l := fun l h => by
 rw [List.getLast?_eq_some_getLast h]
 exact List.getLast_mem h
def hasQ (q : P3) (d : Int) : Bool := hasF q.1 q.2.1 q.2.2 d
theorem QxE {c d e : Int} (h : QaV e = QaV d) : onF c e = onF c d := by unfold onF; rw [h]
theorem Qu9 {a b c : Int} {q : P3} (h : ofF (Qar a b c) = some q) : perE q.1 q.2.1 q.2.2 = 0 ∧ ∀ d, hasQ q d = hasF a b c d := by
 have hA := Qfv a b c
 have hm : ∀ e, e ∈ Qar a b c ↔ hasF a b c e = true := fun e => Qc0
 have hr : ∀ e ∈ Qar a b c, 0 ≤ e ∧ e < 36525 := fun e he => ⟨(QdD he).1, (QdD he).2.1⟩
 cases hl : Qar a b c with
 | nil => rw [hl] at h; cases h
 | cons x r =>
  rw [hl] at h hA hm hr
  have hl2 := QxY (x :: r) (by simp)
  have hlo : ∀ e ∈ x :: r, x ≤ e := fun e he => by
   rcases List.mem_cons.1 he with rfl | he
   ·omega
   ·have := (List.pairwise_cons.1 hA).1 e he; omega
  have hhi := Qt7 (x :: r) hA
  have hq : q = (x, (x :: r).getLast?.getD 0, QbT 0 (x :: r)) := by simpa [ofF] using h.symm
  generalize (x :: r).getLast?.getD 0 = y at hl2 hhi hq
  have hb := QfV (x :: r) 0 (fun e he => (hr e he).1) (by omega)
  have hon : ∀ d, 0 ≤ d → onF (QbT 0 (x :: r)) d = (x :: r).any fun e => decide (QaV e = QaV d) := fun d hd => by
   rw [QtL hd _ _ (fun e he => (hr e he).1) (by omega), QqG, Bool.false_or]
  have hx := (Qbn ..).1 ((hm x).1 (by simp))
  have hy := (Qbn ..).1 ((hm y).1 hl2)
  obtain ⟨p0, p1, p2, p3, p4, p5⟩ := Qc8 hx.1
  have hne : QbT 0 (x :: r) ≠ 0 := fun e => by
   have := hon x (by omega)
   rw [e, QqG] at this
   simp at this
  have hxy := hhi x (by simp)
  subst hq
  have hE : perE x y (QbT 0 (x :: r)) = 0 := by
   unfold perE
   rw [if_neg (by omega), if_neg (by omega), if_neg (by omega)]
  refine ⟨hE, fun d => ?_⟩
  unfold hasQ
  cases hd : hasF a b c d with
  | true =>
   have hd' := (hm d).2 hd
   have := hlo d hd'
   have := hhi d hd'
   refine (Qbn ..).2 ⟨hE, by simpa using hlo d hd', by simpa using hhi d hd', ?_⟩
   rw [hon d (hr d hd').1, List.any_eq_true]
   exact ⟨d, hd', by simp⟩
  | false =>
   cases hd2 : hasF x y (QbT 0 (x :: r)) d with
   | false => rfl
   | true =>
    obtain ⟨_, k1, k2, k3⟩ := (Qbn ..).1 hd2
    rw [hon d (by omega), List.any_eq_true] at k3
    obtain ⟨e, he, hw⟩ := k3
    have he2 := (Qbn ..).1 ((hm e).1 he)
    have := (Qbn a b c d).2 ⟨hx.1, by omega, by omega, by rw [← QxE (by simpa using hw)]; exact he2.2.2.2⟩
    rw [this] at hd
    cases hd
theorem QuV {l : List Int} {d : Int} (h : d ∈ l) : ∃ w, ofF l = some w := by
 cases l with
 | nil => simp at h
 | cons x r => exact ⟨_, rfl⟩
theorem QqC {a b c d : Int} (h : hasF a b c d = true) : perE a b c = 0 := ((Qbn ..).1 h).1
theorem Qxa {a b c a' b' c' : Int} (ha : perE a b c = 0) (hb : perE a' b' c' = 0) : Qe7 a b c a' b' c' = Qar (maxP a a') (minP b b') (andD c c') := by
 obtain ⟨b0, b1, b2, b3, b4, b5⟩ := Qc8 hb
 unfold Qe7
 refine Asc.ext ((Qfv _ _ _).filter _) (Qfv _ _ _) fun x => ?_
 rw [QgN ha (by omega), List.mem_filter, Qc0, Qbn a' b' c']
 constructor
 ·rintro ⟨q1, _, q2, q3, q4⟩; exact ⟨q1, q2, q3, q4⟩
 ·rintro ⟨q1, q2, q3, q4⟩; exact ⟨q1, hb, q2, q3, q4⟩
theorem Qlq {a b c a' b' c' d : Int} : d ∈ Qe7 a b c a' b' c' ↔ hasF a b c d = true ∧ hasF a' b' c' d = true := by
 unfold Qe7
 rw [List.mem_filter, Qc0]
theorem QxD {a b c a' b' c' : Int} {q : P3} (h : Qdk a b c a' b' c' = some q) : perE q.1 q.2.1 q.2.2 = 0 ∧ ∀ d, hasQ q d = (hasF a b c d && hasF a' b' c' d) := by
 unfold Qdk at h
 obtain ⟨d0, hd0⟩ : ∃ d, d ∈ Qe7 a b c a' b' c' := by
  cases hm : Qe7 a b c a' b' c' with
  | nil => rw [hm] at h; cases h
  | cons x r => exact ⟨x, by simp⟩
 obtain ⟨h1, h2⟩ := Qlq.1 hd0
 have e := Qxa (QqC h1) (QqC h2)
 rw [e] at h
 obtain ⟨k1, k2⟩ := Qu9 h
 refine ⟨k1, fun d => ?_⟩
 rw [k2, Bool.eq_iff_iff, Bool.and_eq_true, ← Qc0, ← e, Qlq]
theorem QrX {a b c a' b' c' : Int} : (Qdk a b c a' b' c').isSome = true ↔ ∃ d, hasF a b c d = true ∧ hasF a' b' c' d = true := by
 constructor
 ·intro h
  unfold Qdk at h
  cases hm : Qe7 a b c a' b' c' with
  | nil => rw [hm] at h; cases h
  | cons x r => exact ⟨x, Qlq.1 (by rw [hm]; simp)⟩
 ·rintro ⟨d, h⟩
  obtain ⟨w, hw⟩ := QuV (Qlq.2 h)
  unfold Qdk
  rw [hw]; rfl
theorem QeJ {a b c f t D : Int} (ha : perE a b c = 0) (hD : 0 ≤ D ∧ D < 128) {w : P3} (h : Qc9 a b c f t D = some w) : perE w.1 w.2.1 w.2.2 = 0 ∧ ∀ d, hasQ w d = true ↔ hasF a b c d = true ∧ f ≤ d ∧ d ≤ t ∧ onF D d = true := by
 unfold Qc9 at h
 obtain ⟨k1, k2⟩ := Qu9 h
 exact ⟨k1, fun d => by rw [k2, ← Qc0, QgN ha hD]⟩
theorem Qj0 {a b c f t D d : Int} (ha : perE a b c = 0) (hD : 0 ≤ D ∧ D < 128) (h : hasF a b c d = true ∧ f ≤ d ∧ d ≤ t ∧ onF D d = true) : ∃ w, Qc9 a b c f t D = some w ∧ hasQ w d = true := by
 obtain ⟨w, hw⟩ := QuV ((QgN ha hD).2 h)
 exact ⟨w, hw, ((QeJ ha hD hw).2 d).2 h⟩
theorem QuI {a b c a' b' c' : Int} (ha : perE a b c = 0) (hb : perE a' b' c' = 0) {w : P3} (hw : w ∈ Qch a b c a' b' c') : perE w.1 w.2.1 w.2.2 = 0 ∧ ∀ d, hasQ w d = true → hasF a b c d = true ∧ hasF a' b' c' d = false := by
 obtain ⟨b0, b1, b2, b3, b4, b5⟩ := Qc8 hb
 obtain ⟨a0, a1, a2, a3, a4, a5⟩ := Qc8 ha
 rw [Qge _ _ _ _ _ _ ha hb] at hw
 have no : ∀ d, ¬ (hasF a' b' c' d = true) → hasF a' b' c' d = false := fun d h => by simpa using h
 rcases List.mem_append.1 hw with hw | hw
 ·rcases List.mem_append.1 hw with hw | hw
  ·obtain ⟨k1, k2⟩ := QeJ ha (by omega) (Option.mem_toList.1 hw)
   refine ⟨k1, fun d hd => ?_⟩
   obtain ⟨q1, q2, q3, _⟩ := (k2 d).1 hd
   exact ⟨q1, no d fun h => by have := (Qbn ..).1 h; omega⟩
  ·obtain ⟨k1, k2⟩ := QeJ ha (Qiz (by omega)) (Option.mem_toList.1 hw)
   refine ⟨k1, fun d hd => ?_⟩
   obtain ⟨q1, q2, q3, q4⟩ := (k2 d).1 hd
   refine ⟨q1, no d fun h => ?_⟩
   rw [QqA (by omega) (by omega), ((Qbn ..).1 h).2.2.2] at q4
   cases q4
 ·obtain ⟨k1, k2⟩ := QeJ ha (by omega) (Option.mem_toList.1 hw)
  refine ⟨k1, fun d hd => ?_⟩
  obtain ⟨q1, q2, q3, _⟩ := (k2 d).1 hd
  exact ⟨q1, no d fun h => by have := (Qbn ..).1 h; omega⟩
theorem QsB {a b c a' b' c' d : Int} (hb : perE a' b' c' = 0) (h1 : hasF a b c d = true) (h2 : hasF a' b' c' d = false) : ∃ w ∈ Qch a b c a' b' c', hasQ w d = true := by
 have ha := QqC h1
 obtain ⟨b0, b1, b2, b3, b4, b5⟩ := Qc8 hb
 obtain ⟨a0, a1, a2, a3, a4, a5⟩ := Qc8 ha
 obtain ⟨_, k1, k2, k3⟩ := (Qbn ..).1 h1
 rw [Qge _ _ _ _ _ _ ha hb]
 by_cases c1 : d < a'
 ·obtain ⟨w, hw, hd⟩ := Qj0 (f := a) (t := a' - 1) (D := 127) ha (by omega) ⟨h1, by omega, by omega, Qno (by omega)⟩
  exact ⟨w, by simp [hw], hd⟩
 ·by_cases c2 : b' < d
  ·obtain ⟨w, hw, hd⟩ := Qj0 (f := b' + 1) (t := b) (D := 127) ha (by omega) ⟨h1, by omega, by omega, Qno (by omega)⟩
   exact ⟨w, by simp [hw], hd⟩
  ·have ho : onF c' d = false := by
    cases ho : onF c' d with
    | false => rfl
    | true => rw [(Qbn ..).2 ⟨hb, by omega, by omega, ho⟩] at h2; cases h2
   obtain ⟨w, hw, hd⟩ := Qj0 (f := a') (t := b') (D := notD c') ha (Qiz (by omega)) ⟨h1, by omega, by omega, by rw [QqA (by omega) (by omega), ho]; rfl⟩
   exact ⟨w, by simp [hw], hd⟩
def Apart (x y : P3) : Prop := ∀ d, ¬ (hasQ x d = true ∧ hasQ y d = true)
theorem Qzt (o1 o2 o3 : Option P3) (m n : Int) (hmn : m ≤ n + 1) (h1 : ∀ w, o1 = some w → ∀ d, hasQ w d = true → d < m) (h2 : ∀ w, o2 = some w → ∀ d, hasQ w d = true → m ≤ d ∧ d ≤ n) (h3 : ∀ w, o3 = some w → ∀ d, hasQ w d = true → n < d) :
  (o1.toList ++ o2.toList ++ o3.toList).Pairwise Apart := by
 have a12 : ∀ x y, o1 = some x → o2 = some y → Apart x y := fun x y hx hy d ⟨k1, k2⟩ => by
  have := h1 x hx d k1; have := h2 y hy d k2; omega
 have a13 : ∀ x y, o1 = some x → o3 = some y → Apart x y := fun x y hx hy d ⟨k1, k2⟩ => by
  have := h1 x hx d k1; have := h3 y hy d k2; omega
 have a23 : ∀ x y, o2 = some x → o3 = some y → Apart x y := fun x y hx hy d ⟨k1, k2⟩ => by
  have := h2 x hx d k1; have := h3 y hy d k2; omega
 clear h1 h2 h3
 cases o1 <;> cases o2 <;> cases o3 <;> simp_all
theorem Qsi {a b c a' b' c' : Int} (ha : perE a b c = 0) (hb : perE a' b' c' = 0) : (Qch a b c a' b' c').Pairwise Apart := by
 obtain ⟨b0, b1, b2, b3, b4, b5⟩ := Qc8 hb
 rw [Qge _ _ _ _ _ _ ha hb]
 refine Qzt _ _ _ a' b' (by omega) (fun w hw d hd => ?_) (fun w hw d hd => ?_) fun w hw d hd => ?_
 ·have := ((QeJ ha (by omega) hw).2 d).1 hd; omega
 ·have := ((QeJ ha (Qiz (by omega)) hw).2 d).1 hd; omega
 ·have := ((QeJ ha (by omega) hw).2 d).1 hd; omega
def QgC (f : Fl) (d : Int) : Bool := hasF f.fr f.to f.days d
def Sub (z f : Fl) : Prop := z.car = f.car ∧ z.num = f.num ∧ ∀ d, QgC z d = true → QgC f d = true
def Dis (f g : Fl) : Prop := f.car = g.car → f.num = g.num → ∀ d, ¬ (QgC f d = true ∧ QgC g d = true)
theorem Sub.rfl' (f : Fl) : Sub f f := ⟨rfl, rfl, fun _ h => h⟩
theorem Dis.symm {f g : Fl} (h : Dis f g) : Dis g f := fun h1 h2 d ⟨h3, h4⟩ => h h1.symm h2.symm d ⟨h4, h3⟩
theorem Dis.sub {f g z y : Fl} (h : Dis f g) (h1 : Sub z f) (h2 : Sub y g) : Dis z y := fun e1 e2 d ⟨h3, h4⟩ =>
 h (h1.1.symm.trans (e1.trans h2.1)) (h1.2.1.symm.trans (e2.trans h2.2.1)) d ⟨h1.2.2 d h3, h2.2.2 d h4⟩
theorem Qp8 (f g : Fl) : QcP f g = true ↔ f.car = g.car ∧ f.num = g.num ∧ ∃ d, QgC f d = true ∧ QgC g d = true := by
 unfold QcP
 rw [Bool.and_eq_true, Bool.and_eq_true, QrX, beq_iff_eq, beq_iff_eq]
 rfl
theorem Qrf (f g : Fl) : QcP f g = false ↔ Dis f g := by
 constructor
 ·intro h h1 h2 d hd
  rw [(Qp8 f g).2 ⟨h1, h2, d, hd⟩] at h
  cases h
 ·intro h
  cases hm : QcP f g with
  | false => rfl
  | true =>
   obtain ⟨h1, h2, d, hd⟩ := (Qp8 f g).1 hm
   exact absurd hd (h h1 h2 d)
theorem Qmm (f : Fl) (r : Rv) : Qa2 f r = true ↔ f.car = r.car ∧ f.num = r.num ∧ ∃ d, QgC f d = true ∧ hasF r.fr r.to r.days d = true := by
 unfold Qa2 Qjl
 rw [Bool.and_eq_true, Bool.and_eq_true, QrX, beq_iff_eq, beq_iff_eq]
 rfl
theorem QtR {p : Pc} : ∀ {t q : List Fl}, QdQ p q t = [] ↔ (∀ f ∈ t, Qaz p f = [] ∧ ∀ g ∈ q, Dis g f) ∧ t.Pairwise Dis
 | [], q => by simp [QdQ]
 | f :: t, q => by
  unfold QdQ
  rw [List.append_eq_nil_iff, QtR (t := t), List.pairwise_cons]
  have h8 : ft8 p q.length (q.any (QcP · f)) f = [] ↔ Qaz p f = [] ∧ ∀ g ∈ q, Dis g f := by
   unfold ft8
   rw [List.append_eq_nil_iff, List.map_eq_nil_iff]
   refine and_congr_right fun _ => ?_
   constructor
   ·intro h g hg
    cases ha : q.any (QcP · f) with
    | true => rw [ha] at h; cases h
    | false =>
     have := List.any_eq_false.1 ha g hg
     exact (Qrf g f).1 (by simpa using this)
   ·intro h
    rw [List.any_eq_false.2 fun g hg => by rw [(Qrf g f).2 (h g hg)]; simp]
    rfl
  rw [h8]
  constructor
  ·rintro ⟨⟨h1, h2⟩, h3, h4⟩
   refine ⟨fun g hg => ?_, ⟨fun g hg => (h3 g hg).2 f (by simp), h4⟩⟩
   rcases List.mem_cons.1 hg with rfl | hg
   ·exact ⟨h1, h2⟩
   ·exact ⟨(h3 g hg).1, fun x hx => (h3 g hg).2 x (by simp [hx])⟩
  ·rintro ⟨h1, h2, h3⟩
   refine ⟨h1 f (by simp), fun g hg => ⟨(h1 g (by simp [hg])).1, fun x hx => ?_⟩, h3⟩
   rcases List.mem_append.1 hx with hx | hx
   ·exact (h1 g (by simp [hg])).2 x hx
   ·simp at hx; subst hx; exact h2 g hg
theorem Qdt {p : Pc} {l : List Fl} : QdQ p [] l = [] ↔ (∀ f ∈ l, Qaz p f = []) ∧ l.Pairwise Dis := by
 rw [QtR]
 simp
theorem QsO {p : Pc} {l : List Lg} : ∀ {D : List Int}, (∀ d ∈ D, ordF p l d = true) → Qcn p l D = []
 | [], _ => rfl
 | d :: D, h => by
  unfold Qcn
  rw [if_pos (h d (by simp))]
  exact QsO fun e he => h e (by simp [he])
theorem Qwp {f g : Fl} (h1 : g.car = f.car) (h2 : g.num = f.num) (h : perE g.fr g.to g.days = 0) (hf : Qc5 f = []) : Qc5 g = [] := by
 unfold Qc5 at hf ⊢
 obtain ⟨h3, _⟩ := List.append_eq_nil_iff.1 hf
 rw [h1, h2, h3, h]
 rfl
theorem Qw1 {p : Pc} {f g : Fl} (hl : g.legs = f.legs) (hp : perE g.fr g.to g.days = 0) (hs : Sub g f) (hf : Qaz p f = []) : Qaz p g = [] := by
 obtain ⟨c1, c2, c3, c4, c5⟩ := Qix hf
 unfold Qaz
 rw [hl, if_neg (by omega), Qwp hs.1 hs.2.1 hp c3, c4, if_pos (show ([] ++ [] : List Ft) = [] from rfl)]
 exact QsO fun d hd => c5 d (hs.2.2 d (Qc0.1 hd))
theorem QjI {p : Pc} {f : Fl} (hf : Qaz p f = []) : perE f.fr f.to f.days = 0 := by
 obtain ⟨_, _, c3, _⟩ := Qix hf
 unfold Qc5 at c3
 obtain ⟨_, h⟩ := List.append_eq_nil_iff.1 c3
 by_cases h0 : perE f.fr f.to f.days = 0
 ·exact h0
 ·rw [if_pos (by simpa using h0)] at h; cases h
theorem QtH {R : Fl → Fl → Prop} (hs : ∀ {a b}, R a b → R b a) {g : Fl} : ∀ {P : List Fl}, P.Pairwise R → (∀ y ∈ P, R g y) → (insF g P).Pairwise R
 | [], _, _ => by simp [insF]
 | y :: t, h, hg => by
  unfold insF
  have h1 := List.pairwise_cons.1 h
  split
  ·exact List.pairwise_cons.2 ⟨hg, h⟩
  ·refine List.pairwise_cons.2 ⟨fun z hz => ?_, QtH hs h1.2 fun z hz => hg z (by simp [hz])⟩
   rcases QnA hz with rfl | hz
   ·exact hs (hg y (by simp))
   ·exact h1.1 z hz
theorem QiP {f : Fl} {r : Rv} (ha : perE f.fr f.to f.days = 0) (hb : perE r.fr r.to r.days = 0) {z : Fl} (hz : z ∈ QaW f r) : Sub z f ∧ perE z.fr z.to z.days = 0 ∧ z.legs = f.legs ∧ ∀ d, QgC z d = true → hasF r.fr r.to r.days d = false := by
 obtain ⟨w, hw, rfl⟩ := List.mem_map.1 hz
 obtain ⟨k1, k2⟩ := QuI ha hb hw
 exact ⟨⟨rfl, rfl, fun d hd => (k2 d hd).1⟩, k1, rfl, fun d hd => (k2 d hd).2⟩
theorem QjZ {f : Fl} {r : Rv} (ht : Qa2 f r = true) : Sub (QaE r f (qOf f r)) f ∧ ∀ d, QgC (QaE r f (qOf f r)) d = true → hasF r.fr r.to r.days d = true := by
 have hm := Qt2 ht
 obtain ⟨k1, k2⟩ := QxD hm
 have e : (QaE r f (qOf f r)).car = f.car ∧ (QaE r f (qOf f r)).num = f.num ∧ ∀ d, QgC (QaE r f (qOf f r)) d = hasQ (qOf f r) d := by
  unfold QaE
  split <;> exact ⟨rfl, rfl, fun d => rfl⟩
 refine ⟨⟨e.1, e.2.1, fun d hd => ?_⟩, fun d hd => ?_⟩
 ·rw [e.2.2, k2, Bool.and_eq_true] at hd; exact hd.1
 ·rw [e.2.2, k2, Bool.and_eq_true] at hd; exact hd.2
theorem Qn3 {f : Fl} {r : Rv} (ha : perE f.fr f.to f.days = 0) (hb : perE r.fr r.to r.days = 0) : (QaW f r).Pairwise Dis := by
 unfold QaW wF
 rw [List.pairwise_map]
 exact (Qsi ha hb).imp fun h _ _ d hd => h d hd
def From2 (r : Rv) (l : List Fl) (z : Fl) : Prop := (z ∈ l ∧ Qa2 z r = false) ∨ (∃ f ∈ l, Qa2 f r = true ∧ z ∈ QaW f r) ∨ (r.kind ≠ 2 ∧ ∃ f ∈ l, Qa2 f r = true ∧ z = QaE r f (qOf f r))
theorem From2.cons {r : Rv} {l : List Fl} {f z : Fl} (h : From2 r l z) : From2 r (f :: l) z := by
 rcases h with ⟨h1, h2⟩ | ⟨g, h1, h2⟩ | ⟨hk, g, h1, h2⟩
 ·exact .inl ⟨by simp [h1], h2⟩
 ·exact .inr (.inl ⟨g, by simp [h1], h2⟩)
 ·exact .inr (.inr ⟨hk, g, by simp [h1], h2⟩)
theorem QrK {f z : Fl} {r : Rv} (h : z ∈ (QdI f r (qOf f r)).1) : z ∈ QaW f r ∨ (r.kind ≠ 2 ∧ z = QaE r f (qOf f r)) := by
 unfold QdI at h
 split at h
 ·exact .inl h
 ·rename_i hk
  rcases QnA h with h | h
  ·exact .inr ⟨hk, h⟩
  ·exact .inl h
theorem Qvg {g z : Fl} : ∀ {P : List Fl}, z ∈ P → z ∈ insF g P
 | y :: t, h => by
  unfold insF
  split
  ·simp [List.mem_cons.1 h]
  ·rcases List.mem_cons.1 h with rfl | h
   ·simp
   ·simp [Qvg h]
theorem QwU {f z : Fl} {r : Rv} (h : z ∈ QaW f r) : z ∈ (QdI f r (qOf f r)).1 := by
 unfold QdI
 split
 ·exact h
 ·exact Qvg h
theorem QgW (r : Rv) : ∀ (l : List Fl) (z : Fl), z ∈ outR r l → From2 r l z
 | [], z, h => by simp [outR] at h
 | f :: t, z, h => by
  unfold outR at h
  rcases List.mem_append.1 h with h | h
  ·cases ht : Qa2 f r with
   | false =>
    rw [ht] at h
    simp at h
    subst h
    exact .inl ⟨by simp, ht⟩
   | true =>
    rw [ht] at h
    simp only [if_true] at h
    rcases QrK h with h | ⟨hk, h⟩
    ·exact .inr (.inl ⟨f, by simp, ht, h⟩)
    ·exact .inr (.inr ⟨hk, f, by simp, ht, h⟩)
  ·exact (QgW r t z h).cons
theorem Qpv {r : Rv} {z : Fl} (ht : Qa2 z r = false) : ∀ {l : List Fl}, z ∈ l → z ∈ outR r l
 | f :: t, h => by
  unfold outR
  rcases List.mem_cons.1 h with rfl | h
  ·rw [ht]; simp
  ·exact List.mem_append.2 (.inr (Qpv ht h))
theorem QrB {r : Rv} {f z : Fl} (ht : Qa2 f r = true) (hz : z ∈ QaW f r) : ∀ {l : List Fl}, f ∈ l → z ∈ outR r l
 | g :: t, h => by
  unfold outR
  rcases List.mem_cons.1 h with rfl | h
  ·rw [ht]; exact List.mem_append.2 (.inl (QwU hz))
  ·exact List.mem_append.2 (.inr (QrB ht hz h))
theorem QrC {p : Pc} {r : Rv} (hb : perE r.fr r.to r.days = 0) {l : List Fl} (hl : ∀ f ∈ l, Qaz p f = []) {z : Fl} (h : From2 r l z) : ∃ f ∈ l, Sub z f := by
 rcases h with ⟨h1, _⟩ | ⟨f, h1, _, h2⟩ | ⟨_, f, h1, h2, h3⟩
 ·exact ⟨z, h1, Sub.rfl' z⟩
 ·exact ⟨f, h1, (QiP (QjI (hl f h1)) hb h2).1⟩
 ·subst h3; exact ⟨f, h1, (QjZ h2).1⟩
theorem QoO {p : Pc} {r : Rv} (hb : perE r.fr r.to r.days = 0) : ∀ {l : List Fl}, (∀ f ∈ l, Qaz p f = []) → l.Pairwise Dis → (outR r l).Pairwise Dis
 | [], _, _ => by simp [outR]
 | f :: t, hl, hd => by
  have h1 := List.pairwise_cons.1 hd
  have hf := QjI (hl f (by simp))
  unfold outR
  refine List.pairwise_append.2 ⟨?_, QoO hb (fun g hg => hl g (by simp [hg])) h1.2, fun z hz y hy => ?_⟩
  ·cases ht : Qa2 f r with
   | false => simp
   | true =>
    simp only [if_true]
    unfold QdI
    split
    ·exact Qn3 hf hb
    ·refine QtH Dis.symm (Qn3 hf hb) fun y hy _ _ d ⟨k1, k2⟩ => ?_
     have q1 := (QjZ ht).2 d k1
     have q2 := (QiP hf hb hy).2.2.2 d k2
     rw [q1] at q2; cases q2
  ·obtain ⟨g, hg, hs⟩ := QrC (p := p) hb (fun g hg => hl g (by simp [hg])) (QgW r t y hy)
   have hz' : Sub z f := by
    cases ht : Qa2 f r with
    | false => rw [ht] at hz; simp at hz; subst hz; exact Sub.rfl' z
    | true =>
     rw [ht] at hz
     simp only [if_true] at hz
     rcases QrK hz with hz | ⟨_, hz⟩
     ·exact (QiP hf hb hz).1
     ·rw [hz]; exact (QjZ ht).1
   exact (h1.1 g hg).sub hz' hs
theorem Qpx {r : Rv} : ∀ {l : List Fl}, Qfd r l = 0 → ∀ f ∈ l, Qa2 f r = false
 | [], _, f, h => by simp at h
 | g :: t, h, f, hf => by
  unfold Qfd at h
  cases hg : Qa2 g r with
  | true => rw [hg] at h; simp at h
  | false =>
   rcases List.mem_cons.1 hf with rfl | hf
   ·exact hg
   ·exact Qpx (by rw [hg] at h; simpa using h) f hf
theorem Qxg {f : Fl} {r : Rv} (h : Qa2 f r = false) : Dis f (Qdy r) := fun h1 h2 d ⟨h3, h4⟩ => by
 rw [(Qmm f r).2 ⟨h1, h2, d, h3, h4⟩] at h; cases h
theorem QtQ {r : Rv} (hk : r.kind ≠ 2) {f : Fl} (ht : Qa2 f r = true) : ∀ {l : List Fl}, f ∈ l → QaE r f (qOf f r) ∈ newR r l
 | g :: t, h => by
  unfold newR
  rcases List.mem_cons.1 h with rfl | h
  ·simp [ht, hk]
  ·exact List.mem_append.2 (.inr (QtQ hk ht h))
structure Res (p : Pc) (l : List Fl) (r : Rv) (x : List Fl) : Prop where
 per : perE r.fr r.to r.days = 0
 kind : 1 ≤ r.kind ∧ r.kind ≤ 5
 ok : QdQ p [] x = []
 old : ∀ z ∈ x, From2 r l z ∨ (r.kind = 1 ∧ z = Qdy r)
 keep : ∀ z ∈ outR r l, z ∈ x
 new : r.kind = 1 → Qdy r ∈ x
theorem QzB {p : Pc} {l : List Fl} {r : Rv} (hl : QdQ p [] l = []) (h0 : (resF p l r).2 = 0) : Res p l r (resF p l r).1 := by
 obtain ⟨hc, hd⟩ := Qdt.1 hl
 have chk : ∀ {out new : List Fl}, (chkR p out new).2 = 0 → (∀ g ∈ new, Qaz p g = []) ∧ (chkR p out new).1 = out := fun {out new} h => by
  unfold chkR at h ⊢
  cases hb : QcQ p new with
  | none => exact ⟨Qh4 hb, rfl⟩
  | some e =>
   rw [hb] at h
   simp only at h
   exfalso
   have : ∀ (t : List Fl) (e : Int), QcQ p t = some e → e ≠ 0 := fun t => by
    induction t with
    | nil => intro e h; cases h
    | cons g t ih =>
     intro e h
     unfold QcQ at h
     cases hg : Qaz p g with
     | nil => rw [hg] at h; exact ih e h
     | cons a s =>
      rw [hg] at h
      simp only [Option.some.injEq] at h
      rw [← h]
      exact QrR (p := p) (f := g) (by rw [hg]; simp)
   exact this new e hb h
 have good : perE r.fr r.to r.days = 0 → (∀ g ∈ newR r l, Qaz p g = []) → ∀ z ∈ outR r l, Qaz p z = [] := fun hb hn z hz => by
  rcases QgW r l z hz with ⟨h1, _⟩ | ⟨f, h1, _, h2⟩ | ⟨hk, f, h1, h2, h3⟩
  ·exact hc z h1
  ·obtain ⟨k1, k2, k3, _⟩ := QiP (QjI (hc f h1)) hb h2
   exact Qw1 k3 k2 k1 (hc f h1)
  ·exact hn z (by rw [h3]; exact QtQ hk h2 h1)
 unfold resF at h0 ⊢
 split at h0
 ·simp at h0
 ·rename_i hk
  rw [if_neg hk]
  split at h0
  ·rename_i hp; exact absurd h0 hp
  ·rename_i hp
   rw [if_neg hp]
   have hp : perE r.fr r.to r.days = 0 := Decidable.not_not.1 hp
   split at h0
   ·rename_i h1
    rw [if_pos h1]
    split at h0
    ·rename_i hm
     rw [if_pos hm]
     obtain ⟨hn, e⟩ := chk h0
     rw [e]
     have ht := Qpx hm
     refine ⟨hp, by omega, Qdt.2 ⟨fun z hz => ?_, ?_⟩, fun z hz => ?_, fun z hz => by simp [hz], fun _ => by simp⟩
     ·rcases List.mem_append.1 hz with hz | hz
      ·exact good hp (fun g hg => hn g (by simp [hg])) z hz
      ·simp at hz; subst hz; exact hn _ (by simp)
     ·refine List.pairwise_append.2 ⟨QoO hp hc hd, by simp, fun z hz y hy => ?_⟩
      simp at hy; subst hy
      rw [(Qo7 r l hm).1] at hz
      exact Qxg (ht z hz)
     ·rcases List.mem_append.1 hz with hz | hz
      ·exact .inl (QgW r l z hz)
      ·simp at hz; exact .inr ⟨h1, hz⟩
    ·simp at h0
   ·rename_i h1
    rw [if_neg h1]
    split at h0
    ·simp at h0
    ·rename_i hm
     rw [if_neg hm]
     obtain ⟨hn, e⟩ := chk h0
     rw [e]
     exact ⟨hp, by omega, Qdt.2 ⟨good hp hn, QoO hp hc hd⟩, fun z hz => .inl (QgW r l z hz), fun z hz => hz, fun h => absurd h h1⟩
end Go.Proofs
set_option linter.unusedSimpArgs false
set_option linter.unusedVariables false
namespace Go.Proofs
open Go.Am
variable (lb : Nat)
theorem Qgy {car : Bs} {num day : Int} {f : Fl} : onB car num day f = true ↔ f.car = car ∧ f.num = num ∧ QgC f day = true := by
 unfold onB
 rw [Bool.and_eq_true, Bool.and_eq_true, beq_iff_eq, beq_iff_eq]
 rfl
theorem Qo5 {car : Bs} {num day : Int} {z : Fl} (ho : onB car num day z = true) : ∀ {l : List Fl}, l.Pairwise Dis → z ∈ l → QbG car num day l = some z
 | f :: t, hd, hz => by
  have h1 := List.pairwise_cons.1 hd
  unfold QbG
  rcases List.mem_cons.1 hz with rfl | hz
  ·rw [if_pos ho]
  ·cases hf : onB car num day f with
   | true =>
    obtain ⟨a1, a2, a3⟩ := Qgy.1 hf
    obtain ⟨b1, b2, b3⟩ := Qgy.1 ho
    exact absurd ⟨a3, b3⟩ (h1.1 z hz (a1.trans b1.symm) (a2.trans b2.symm) day)
   | false => simp only [Bool.false_eq_true, if_false]; exact Qo5 ho h1.2 hz
theorem Qjm {car : Bs} {num day : Int} : ∀ {l : List Fl}, QbG car num day l = none ↔ ∀ f ∈ l, onB car num day f = false
 | [] => by simp [QbG]
 | f :: t => by
  unfold QbG
  cases hf : onB car num day f with
  | true => simp [hf]
  | false => simp [hf, Qjm (l := t)]
def Qnr (o : Option Fl) : List Lg := (o.getD fl0).legs
def Qkq (l x : List Fl) (car : Bs) (num day : Int) : Bool := ((QbG car num day l).isSome == (QbG car num day x).isSome) && lgsB (Qnr (QbG car num day l)) (Qnr (QbG car num day x))
theorem QrA {l : List Fl} {car : Bs} {num day : Int} (h : ∀ f ∈ l, f.legs.length ≤ 1000) : (Qnr (QbG car num day l)).length ≤ 1000 := by
 unfold Qnr
 cases hf : QbG car num day l with
 | none => simp [fl0]
 | some f => exact h f (QmO hf).1
theorem Qsj (an bn : Bool) (l x : List Fl) (hl : ∀ f ∈ l, f.legs.length ≤ 1000) (hx : ∀ f ∈ x, f.legs.length ≤ 1000) (hll : l.length ≤ 1000000) (hxl : x.length ≤ 1000000) (car : Bs) (num day : Int) :
  Ret lb Qe3 [.list an (l.map flE), .list bn (x.map flE), .str car, .int .i64 num, .int .i64 day] (.bool (Qkq l x car num day)) := by
 have h3 := Qo3 lb ((QbG car num day l).getD fl0).ln ((QbG car num day x).getD fl0).ln (Qnr (QbG car num day l)) (Qnr (QbG car num day x)) (QrA hl) (QrA hx)
 refine .top rfl (Evt.imp2 (Qlk lb an l car num day hll) ((Qlk lb bn x car num day hxl).and h3) fun n h1 ⟨h2, h3⟩ => ?_)
 rw [Qui]
 refine stO _ h1 (stO _ rfl (stO _ rfl (stO _ rfl (stO _ rfl (stO _ rfl (stC rfl (stO _ rfl (stO _ rfl (stO _ rfl (stO _ rfl (stO _ rfl (stO _ rfl ?_))))))))))))
 refine stO _ h2 (stO _ rfl (stO _ rfl (stO _ rfl (stO _ rfl (stO _ rfl (stC rfl (stO _ rfl (stO _ rfl (stO _ rfl (stO _ rfl (stO _ rfl (stO _ rfl ?_))))))))))))
 refine stO _ (QaF _) (stO _ (QaF _) ?_)
 unfold Qkq
 cases (QbG car num day l).isSome == (QbG car num day x).isSome with
 | false => exact stF rfl rfl
 | true => exact stT rfl (stO _ h3 rfl)
theorem QwS {p : Pc} {l x : List Fl} {r : Rv} {day : Int} (hl : QdQ p [] l = []) (R : Res p l r x) {car : Bs} {num : Int} (hno : ¬ (car = r.car ∧ num = r.num ∧ hasF r.fr r.to r.days day = true)) : Qkq l x car num day = true := by
 have hx := Qdt.1 R.ok
 have hc := Qdt.1 hl
 unfold Qkq
 cases hf : QbG car num day l with
 | some g =>
  obtain ⟨hg, ho⟩ := QmO hf
  have ⟨o1, o2, o3⟩ := Qgy.1 ho
  have : ∃ z ∈ x, onB car num day z = true ∧ z.legs = g.legs := by
   cases ht : Qa2 g r with
   | false => exact ⟨g, R.keep g (Qpv ht hg), ho, rfl⟩
   | true =>
    obtain ⟨t1, t2, _⟩ := (Qmm g r).1 ht
    have hn : hasF r.fr r.to r.days day = false := by
     cases hh : hasF r.fr r.to r.days day with
     | false => rfl
     | true => exact absurd ⟨o1.symm.trans t1, o2.symm.trans t2, hh⟩ hno
    obtain ⟨w, hw, hq⟩ := QsB R.per o3 hn
    exact ⟨QiU g w, R.keep _ (QrB ht (List.mem_map.2 ⟨w, hw, rfl⟩) hg), Qgy.2 ⟨o1, o2, hq⟩, rfl⟩
  obtain ⟨z, hz, hzo, hzl⟩ := this
  rw [Qo5 hzo hx.2 hz]
  show ((true == true) && lgsB g.legs z.legs) = true
  rw [hzl, Qro]; rfl
 | none =>
  have h0 := Qjm.1 hf
  have : QbG car num day x = none := Qjm.2 fun z hz => by
   cases hzo : onB car num day z with
   | false => rfl
   | true =>
    obtain ⟨o1, o2, o3⟩ := Qgy.1 hzo
    rcases R.old z hz with h | ⟨_, h⟩
    ·obtain ⟨f, hf, s1, s2, s3⟩ := QrC (p := p) R.per hc.1 h
     have := h0 f hf
     rw [Qgy.2 ⟨s1.symm.trans o1, s2.symm.trans o2, s3 day o3⟩] at this
     cases this
    ·subst h
     exact absurd ⟨o1.symm, o2.symm, o3⟩ hno
  rw [this]
  rfl
theorem QxC {p : Pc} {l x : List Fl} {r : Rv} {day : Int} (hl : QdQ p [] l = []) (R : Res p l r x) (h2 : r.kind = 2) (hh : hasF r.fr r.to r.days day = true) : QbG r.car r.num day x = none := by
 have hc := Qdt.1 hl
 refine Qjm.2 fun z hz => ?_
 cases hzo : onB r.car r.num day z with
 | false => rfl
 | true =>
  obtain ⟨o1, o2, o3⟩ := Qgy.1 hzo
  rcases R.old z hz with (⟨_, h⟩ | ⟨f, hf, _, h⟩ | ⟨h, _⟩) | ⟨h, _⟩
  ·rw [(Qmm z r).2 ⟨o1, o2, day, o3, hh⟩] at h; cases h
  ·have := (QiP (QjI (hc.1 f hf)) R.per h).2.2.2 day o3
   rw [hh] at this; cases this
  ·exact absurd h2 h
  ·omega
theorem Qwz {p : Pc} {l x : List Fl} {r : Rv} {day : Int} (R : Res p l r x) (h1 : r.kind = 1) (hh : hasF r.fr r.to r.days day = true) : QbG r.car r.num day x = some (Qdy r) :=
 Qo5 (z := Qdy r) (Qgy.2 ⟨rfl, rfl, hh⟩) (Qdt.1 R.ok).2 (R.new h1)
theorem Qy7 {p : Pc} {l : List Fl} {r : Rv} (h : (resF p l r).2 ≠ 0) : (resF p l r).1 = [] := by
 have hc : ∀ out new, (chkR p out new).2 ≠ 0 → (chkR p out new).1 = [] := fun out new h => by
  unfold chkR at h ⊢
  cases hb : QcQ p new with
  | none => rw [hb] at h; exact absurd rfl h
  | some e => rfl
 revert h
 unfold resF
 split
 ·intro; rfl
 ·split
  ·intro; rfl
  ·split
   ·split
    ·exact hc _ _
    ·intro; rfl
   ·split
    ·intro; rfl
    ·exact hc _ _
theorem Qya (p : Pc) (bn b : Bool) (l x : List Fl) (r : Rv) (day : Int) (wH vc : CV) (hl : ∀ f ∈ l, f.legs.length ≤ 1000) (hx : ∀ f ∈ x, f.legs.length ≤ 1000) (hll : l.length ≤ 1000000) (hxl : x.length ≤ 1000000)
  (ha : ∀ f ∈ l, (f.car = r.car ∧ f.num = r.num ∧ hasF r.fr r.to r.days day = true) ∨ Qkq l x f.car f.num day = true) : ∀ (t u : List Fl), u ++ t = l → Evt fun n => ∀ k, t.length < k →
  l10_RevisionOthers_L1 lb n k p.an (p.aps.map apcv) p.dn (p.dis.map dicv) bn (l.map flE) r.kind r.car r.num r.fr r.to r.days r.min r.eq r.ln (r.legs.map lgcv) day (.list b (x.map flE)) wH vc (u.length : Int) = QcB lb n p.an (p.aps.map apcv) p.dn (p.dis.map dicv) bn (l.map flE) r.kind r.car r.num r.fr r.to r.days r.min r.eq r.ln (r.legs.map lgcv) day (.list b (x.map flE)) wH vc (l.length : Int)
 | [], u, h => by
  refine .all fun n k hk => ?_
  obtain ⟨k, rfl⟩ : ∃ m, k = m + 1 := ⟨k - 1, by simp at hk; omega⟩
  have hu : u = l := by simpa using h
  rw [QeU, hu]
  exact stF (decF (by simp)) rfl
 | f :: t, u, h => by
  have hlen : l.length = u.length + (t.length + 1) := by rw [← h]; simp
  have hw1 : IntKind.wrap .i64 ((u.length : Int) + 1) = ((u ++ [f]).length : Int) := by rw [QaB (by omega) (by omega)]; simp
  have hf := ha f (by rw [← h]; simp)
  refine Evt.imp2 ((Qsj lb bn b l x hl hx hll hxl f.car f.num day).and (Qf3 lb r.fr r.to r.days day)) (Qya p bn b l x r day wH vc hl hx hll hxl ha t (u ++ [f]) (by rw [← h]; simp)) fun n ⟨h1, h2⟩ hi k hk => ?_
  obtain ⟨k, rfl⟩ : ∃ m, k = m + 1 := ⟨k - 1, by simp at hk; omega⟩
  have hi := hi k (by simp at hk; omega)
  rw [QeU, hw1]
  refine stT (decT (by simp; omega)) (stO _ (Qa5 (Qf5 h)) (stC rfl (stO _ rfl (stO _ rfl (stO _ rfl (stO _ rfl (stO _ rfl (stO _ rfl (stO _ (Qa0 _) ?_)))))))))
  have skip : Qkq l x f.car f.num day = true → (optO (C lb n Qe3 [.list bn (l.map flE), .list b (x.map flE), .str f.car, .int .i64 f.num, .int .i64 day]) fun o4 => optO (CV.asB o4) fun mN => bif (!mN) then (some (.bool false)) else (l10_RevisionOthers_L1 lb n k p.an (p.aps.map apcv) p.dn (p.dis.map dicv) bn (l.map flE) r.kind r.car r.num r.fr r.to r.days r.min r.eq r.ln (r.legs.map lgcv) day (.list b (x.map flE)) wH vc ((u ++ [f]).length : Int))) = QcB lb n p.an (p.aps.map apcv) p.dn (p.dis.map dicv) bn (l.map flE) r.kind r.car r.num r.fr r.to r.days r.min r.eq r.ln (r.legs.map lgcv) day (.list b (x.map flE)) wH vc (l.length : Int) := fun hA =>
   stO _ h1 (stO _ (QaF _) (stF (by rw [hA]; rfl) hi))
  by_cases c1 : f.car = r.car
  ·refine stT (by rw [c1]; simp) (stO _ (QaH ..) ?_)
   by_cases c2 : f.num = r.num
   ·refine stT (beqT c2) (stO _ h2 (stO _ (QaF _) ?_))
    cases hh : hasF r.fr r.to r.days day with
    | true => exact stF rfl hi
    | false =>
     refine stT rfl (skip ?_)
     rcases hf with hf | hf
     ·rw [hh] at hf; cases hf.2.2
     ·exact hf
   ·refine stF (beqF c2) (skip ?_)
    rcases hf with hf | hf
    ·exact absurd hf.2.1 c2
    ·exact hf
  ·refine stF (by simpa using c1) (skip ?_)
   rcases hf with hf | hf
   ·exact absurd hf.1 c1
   ·exact hf
theorem QzT (n : Nat) (p : Pc) (bn b : Bool) (l x : List Fl) (r : Rv) (day : Int) (wH vc : CV) (i : Int)
  (h1 : C lb n Qcy [.list b (x.map flE), .str r.car, .int .i64 r.num, .int .i64 day] = some (onV (QbG r.car r.num day x)))
  (h2 : C lb n Qcz [.agg [.int .i64 r.fr, .int .i64 r.to, .int .i64 r.days], .int .i64 day] = some (.bool (hasF r.fr r.to r.days day)))
  (aw : C lb n Qbd [] = some (.bool true))
  (c1 : r.kind = 1 → hasF r.fr r.to r.days day = true → (QbG r.car r.num day x).isSome = true)
  (c2 : r.kind = 2 → hasF r.fr r.to r.days day = true → (QbG r.car r.num day x).isSome = false) :
  QcB lb n p.an (p.aps.map apcv) p.dn (p.dis.map dicv) bn (l.map flE) r.kind r.car r.num r.fr r.to r.days r.min r.eq r.ln (r.legs.map lgcv) day (.list b (x.map flE)) wH vc i = some (.bool true) := by
 rw [Qjg]
 refine stO _ h1 (stO _ rfl (stO _ rfl (stO _ rfl (stO _ rfl (stO _ rfl (stC rfl (stO _ rfl (stO _ rfl (stO _ rfl (stO _ rfl (stO _ rfl (stO _ rfl ?_))))))))))))
 by_cases k2 : r.kind = 2
 ·refine stT (beqT k2) (stF (by simp [k2]) (stO _ (QaF _) ?_))
  have c2 := c2 k2
  cases ho : (QbG r.car r.num day x).isSome with
  | false => exact stT rfl (stO _ aw rfl)
  | true =>
   refine stF rfl (stO _ h2 (stO _ (QaF _) ?_))
   cases hh : hasF r.fr r.to r.days day with
   | false => exact stT rfl (stO _ aw rfl)
   | true => have := c2 hh; rw [ho] at this; cases this
 ·refine stF (beqF k2) ?_
  by_cases k1 : r.kind = 1
  ·refine stF (by simp [k1]) (stO _ h2 (stO _ (QaF _) (stO _ (QaF _) ?_)))
   have c1 := c1 k1
   cases hh : hasF r.fr r.to r.days day with
   | true =>
    rw [c1 hh]
    exact stT rfl (stT (bneT k2) (stO _ aw rfl))
   | false =>
    rw [hh] at h2
    cases (QbG r.car r.num day x).isSome with
    | false => exact stT rfl (stT (bneT k2) (stO _ aw rfl))
    | true => exact stF rfl (stO _ h2 (stO _ rfl (stT rfl (stT (bneT k2) (stO _ aw rfl)))))
  ·exact stT (bneT k1) (stT (bneT k2) (stO _ aw rfl))
theorem QnH (p : Pc) (hp : ArgP p) (bn : Bool) (l : List Fl) (hl : ArgL l) (r : Rv) (hr : ArgR r) (day : Int) : Ret lb Qa6 [pcv p, .list bn (l.map flE), rvcv r, .int .i64 day] (.bool true) := by
 have aw := QvJ lb
 have rt := Qr9 lb p hp bn l hl
 cases hR : QkC p l with
 | false =>
  refine .top rfl (Evt.imp2 rt aw fun n h1 h2 => ?_)
  rw [Qdp]
  exact stO _ h1 (stO _ rfl (stT (by rw [hR]; rfl) (stO _ h2 rfl)))
 | true =>
  obtain ⟨r1, r2, r3, r4⟩ := Qxn hl hR
  have r5 : QdQ p [] l = [] := by
   unfold QkC at hR
   simp only [Bool.and_eq_true, List.isEmpty_iff] at hR
   exact hR.2.2
  have sm := Qsc lb r hr
  cases hS : QmF r with
  | false =>
   refine .top rfl (Evt.imp2 rt (Evt.and sm aw) fun n h1 ⟨h2, h3⟩ => ?_)
   rw [Qdp]
   exact stO _ h1 (stO _ rfl (stF (by rw [hR]; rfl) (stO _ h2 (stO _ rfl (stT (by rw [hS]; rfl) (stO _ h3 rfl))))))
  | true =>
   obtain ⟨s1, s2⟩ := QxI hS
   have a1 := Qnc lb p r1 r s1 bn l r2 (by omega)
   rw [QxQ] at a1
   have rl := Qyr p l r
   by_cases h0 : (resF p l r).2 = 0
   ·have R := QzB (r := r) r5 h0
    have ok := QyC (p := p) r2 (⟨s1, s2, hr.2.2.2⟩ : SmR r)
    have hx : ∀ z ∈ (resF p l r).1, z.legs.length ≤ 1000 := fun z hz => by have := (ok z hz).len; omega
    have h8 := QlJ lb p r1 (resF p l r).1.isEmpty (resF p l r).1 (fun z hz => ⟨(ok z hz).car, (ok z hz).eq⟩) (by omega)
    have h9 := (Qya lb p bn (resF p l r).1.isEmpty l (resF p l r).1 r day (.int .i64 (resF p l r).2) (Qeq (resF p l r)) (fun f hf => by have := (r2 f hf).len; omega) hx (by omega) (by omega) (fun f hf => by
     by_cases c : f.car = r.car ∧ f.num = r.num ∧ hasF r.fr r.to r.days day = true
     ·exact .inl c
     ·exact .inr (QwS r5 R c)) l [] rfl).diag
    refine .top rfl (Evt.imp2 ((rt.and (Evt.and sm aw)).and (Evt.and a1 h8)) (h9.and ((Qlk lb (resF p l r).1.isEmpty (resF p l r).1 r.car r.num day (by omega)).and (Qf3 lb r.fr r.to r.days day))) fun n ⟨⟨h1, h2, h3⟩, h4, h5⟩ ⟨h6, h7, h10⟩ => ?_)
    have hJ := QzT lb n p bn (resF p l r).1.isEmpty l (resF p l r).1 r day (.int .i64 (resF p l r).2) (Qeq (resF p l r)) (l.length : Int) h7 h10 h3 (fun k1 hh => by rw [Qwz R k1 hh]; rfl) (fun k2 hh => by rw [QxC r5 R k2 hh]; rfl)
    rw [R.ok] at h5
    rw [Qdp]
    refine stO _ h1 (stO _ rfl (stF (by rw [hR]; rfl) (stO _ h2 (stO _ rfl (stF (by rw [hS]; rfl) (stO _ h4 (stO _ rfl (stO _ rfl (stO _ rfl (stO _ rfl (stO _ (QaH ..) ?_)))))))))))
    exact stF (by rw [h0]; rfl) (stO _ h5 (stO _ rfl (stF rfl (h6.trans hJ))))
   ·have e := Qy7 h0
    refine .top rfl (Evt.imp2 (rt.and (Evt.and sm aw)) a1 fun n ⟨h1, h2, h3⟩ h4 => ?_)
    rw [Qdp]
    refine stO _ h1 (stO _ rfl (stF (by rw [hR]; rfl) (stO _ h2 (stO _ rfl (stF (by rw [hS]; rfl) (stO _ h4 (stO _ rfl (stO _ rfl (stO _ rfl (stO _ rfl (stO _ (QaH ..) (stT (bneT h0) ?_))))))))))))
    rw [e]
    exact stO _ rfl (stT rfl (stO _ h3 rfl))
end Go.Proofs
