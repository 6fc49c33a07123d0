/- Chapter 10: the law RevisionTouches on plain data. Conditions: as each says. -/
import Derived.Test.YtdcpdknginpohaaGreatDoorNB
import Derived.Test.YtdcpdknginpohaaGreatDoorVe
import Derived.Test.YtdcpdknginpohaaGreatDoorVh
import Derived.Test.YtdcpdknginpohaaGreatDoorKj
import Derived.Test.YtdcpdknginpohaaGreatDoorVf
import Derived.Test.YtdcpdknginpohaaGreatDoorVg
import Derived.Test.YtdcpdknginpohaaGreatDoorVk
set_option linter.unusedSimpArgs false
set_option linter.unusedVariables false
namespace Go.Proofs
open Go.Am
variable (lb : Nat)
def onB (car : Bs) (num day : Int) (f : Fl) : Bool := (f.car == car) && ((f.num == num) && hasF f.fr f.to f.days day)
def QbJ (car : Bs) (num day : Int) : List Fl → Option Fl
 | [] => none
 | f :: t => if onB car num day f then some f else QbJ car num day t
def fl0 : Fl := ⟨[], 0, 0, 0, 0, true, []⟩
def onV (o : Option Fl) : CV := .tup [.agg (flE (o.getD fl0)), .bool o.isSome]
theorem QkB {car : Bs} {num day : Int} : ∀ {l : List Fl} {f : Fl}, QbJ car num day l = some f → f ∈ l ∧ onB car num day f = true
 | [], f, h => by simp [QbJ] at h
 | x :: t, f, h => by
  unfold QbJ at h
  split at h
  ·rename_i hx; simp at h; subst h; exact ⟨by simp, hx⟩
  ·obtain ⟨a, b⟩ := QkB h
   exact ⟨by simp [a], b⟩
theorem QtQ (bn : Bool) (l : List Fl) (car : Bs) (num day : Int) (hll : l.length ≤ 1000000) : ∀ (t u : List Fl), u ++ t = l → Evt fun n => ∀ k, t.length < k →
  r08_On_L1 lb n k bn (l.map flE) car num day (u.length : Int) = some (onV (QbJ car num day t))
 | [], u, h => by
  refine .all fun n k hk => ?_
  obtain ⟨k, rfl⟩ : ∃ m, k = m + 1 := ⟨k - 1, by simp at hk; omega⟩
  have hu : u = l := by simpa using h
  rw [QiS, hu]
  refine stF (decF (by simp)) ?_
  rw [Qq3]
  rfl
 | f :: t, u, h => by
  have hlen : l.length = u.length + (t.length + 1) := by rw [← h]; simp
  have hw1 : IntKind.wrap .i64 ((u.length : Int) + 1) = ((u ++ [f]).length : Int) := by rw [Qaz (by omega) (by omega)]; simp
  refine Evt.imp2 (Qio lb f.fr f.to f.days day) (QtQ bn l car num day hll t (u ++ [f]) (by rw [← h]; simp)) fun n hm hi k hk => ?_
  obtain ⟨k, rfl⟩ : ∃ m, k = m + 1 := ⟨k - 1, by simp at hk; omega⟩
  have hi := hi k (by simp at hk; omega)
  have at_ := QaI (Qdv h)
  unfold QbJ onB
  rw [QiS, hw1]
  refine stT (decT (by simp; omega)) (stO _ at_ (stC rfl (stO _ rfl (stO _ rfl ?_))))
  cases h1 : f.car == car with
  | false => exact stF rfl (by simpa using hi)
  | true =>
   refine stT rfl (stO _ at_ (stC rfl (stO _ rfl (stO _ (QaO ..) ?_))))
   cases h2 : f.num == num with
   | false => exact stF rfl (by simpa using hi)
   | true =>
    refine stT rfl (stO _ at_ (stC rfl (stO _ rfl (stO _ rfl (stO _ rfl (stO _ hm (stO _ (QaH _) ?_)))))))
    cases h3 : hasF f.fr f.to f.days day with
    | false => exact stF rfl (by simpa using hi)
    | true => exact stT rfl (stO _ at_ (stC rfl (stO _ rfl (stO _ rfl (stO _ rfl (stO _ rfl (stO _ rfl (stO _ rfl rfl))))))))
theorem Qnk (bn : Bool) (l : List Fl) (car : Bs) (num day : Int) (hll : l.length ≤ 1000000) : Ret lb Qce [.list bn (l.map flE), .str car, .int .i64 num, .int .i64 day] (onV (QbJ car num day l)) :=
 .top rfl ((Evt.diag (QtQ lb bn l car num day hll l [] rfl)).mono fun n h => by rw [Qs8]; exact h)
end Go.Proofs
set_option linter.unusedSimpArgs false
set_option linter.unusedVariables false
namespace Go.Proofs
open Go.Am
theorem Qww : ∀ (d : Fin 128) (w v : Fin 7), (orB ((d.val : Nat) : Int) w.val / 2 ^ v.val % 2 == 1) = ((((d.val : Nat) : Int) / 2 ^ v.val % 2 == 1) || decide (w.val = v.val)) := by decide +kernel
theorem Qv9 {acc e d : Int} (h0 : 0 ≤ acc ∧ acc < 128) (he : 0 ≤ e) (hd : 0 ≤ d) : onF (orB acc (QaF e).toNat) d = (onF acc d || decide (QaF e = QaF d)) := by
 obtain ⟨h1, h2⟩ := Qb0 he
 obtain ⟨h3, h4⟩ := Qb0 hd
 obtain ⟨a, rfl⟩ := Int.eq_ofNat_of_zero_le h0.1
 obtain ⟨w, hw⟩ := Int.eq_ofNat_of_zero_le h1
 obtain ⟨v, hv⟩ := Int.eq_ofNat_of_zero_le h3
 unfold onF
 rw [hw, hv]
 have := Qww ⟨a, by omega⟩ ⟨w, by omega⟩ ⟨v, by omega⟩
 have e2 : decide (((w : Nat) : Int) = (v : Nat)) = decide (w = v) := by
  by_cases h : w = v
  ·simp [h]
  ·rw [decide_eq_false h, decide_eq_false (by omega)]
 rw [e2]
 exact this
theorem Qmj {d : Int} (hd : 0 ≤ d) : ∀ (l : List Int) (acc : Int), (∀ e ∈ l, 0 ≤ e) → 0 ≤ acc ∧ acc < 128 → onF (Qbi acc l) d = (onF acc d || l.any fun e => decide (QaF e = QaF d))
 | [], acc, _, _ => by simp [Qbi]
 | e :: l, acc, h, h0 => by
  have he := h e (by simp)
  simp only [Qbi, List.any_cons]
  rw [Qmj hd l _ (fun x hx => h x (by simp [hx])) (Qoz h0 he), Qv9 h0 he hd, Bool.or_assoc]
theorem Qp3 : ∀ (l : List Int), Asc l → ∀ e ∈ l, e ≤ l.getLast?.getD 0
 | [], _, e, he => by simp at he
 | [x], _, e, he => by simp at he; simp [he]
 | x :: y :: t, h, e, he => by
  have h1 := List.pairwise_cons.1 h
  have ih := Qp3 (y :: t) h1.2
  rw [List.getLast?_cons_cons]
  rcases List.mem_cons.1 he with rfl | he
  ·have := h1.1 y (by simp)
   have := ih y (by simp)
   omega
  ·exact ih e he
theorem QqW : ∀ (l : List Int), l ≠ [] → l.getLast?.getD 0 ∈ l := fun l h => by
 rw [List.getLast?_eq_some_getLast h]
 exact List.getLast_mem h
def hasQ (q : P3) (d : Int) : Bool := hasF q.1 q.2.1 q.2.2 d
theorem Qup {c d e : Int} (h : QaF e = QaF d) : onF c e = onF c d := by unfold onF; rw [h]
theorem QiE {a b c : Int} {q : P3} (h : ofF (Qan a b c) = some q) : perE q.1 q.2.1 q.2.2 = 0 ∧ ∀ d, hasQ q d = hasF a b c d := by
 have hA := QbV a b c
 have hm : ∀ e, e ∈ Qan a b c ↔ hasF a b c e = true := fun e => Qcy
 have hr : ∀ e ∈ Qan a b c, 0 ≤ e ∧ e < 36525 := fun e he => ⟨(Qe0 he).1, (Qe0 he).2.1⟩
 cases hl : Qan a b c with
 | nil => rw [hl] at h; cases h
 | cons x r =>
  rw [hl] at h hA hm hr
  have hl2 := QqW (x :: r) (by simp)
  have hlo : ∀ e ∈ x :: r, x ≤ e := fun e he => by
   rcases List.mem_cons.1 he with rfl | he
   ·omega
   ·have := (List.pairwise_cons.1 hA).1 e he; omega
  have hhi := Qp3 (x :: r) hA
  have hq : q = (x, (x :: r).getLast?.getD 0, Qbi 0 (x :: r)) := by simpa [ofF] using h.symm
  generalize (x :: r).getLast?.getD 0 = y at hl2 hhi hq
  have hb := Qev (x :: r) 0 (fun e he => (hr e he).1) (by omega)
  have hon : ∀ d, 0 ≤ d → onF (Qbi 0 (x :: r)) d = (x :: r).any fun e => decide (QaF e = QaF d) := fun d hd => by
   rw [Qmj hd _ _ (fun e he => (hr e he).1) (by omega), Qlf, Bool.false_or]
  have hx := (Qbo ..).1 ((hm x).1 (by simp))
  have hy := (Qbo ..).1 ((hm y).1 hl2)
  obtain ⟨p0, p1, p2, p3, p4, p5⟩ := Qey hx.1
  have hne : Qbi 0 (x :: r) ≠ 0 := fun e => by
   have := hon x (by omega)
   rw [e, Qlf] at this
   simp at this
  have hxy := hhi x (by simp)
  subst hq
  have hE : perE x y (Qbi 0 (x :: r)) = 0 := by
   unfold perE
   rw [if_neg (by omega), if_neg (by omega), if_neg (by omega)]
  refine ⟨hE, fun d => ?_⟩
  unfold hasQ
  cases hd : hasF a b c d with
  | true =>
   have hd' := (hm d).2 hd
   have := hlo d hd'
   have := hhi d hd'
   refine (Qbo ..).2 ⟨hE, by simpa using hlo d hd', by simpa using hhi d hd', ?_⟩
   rw [hon d (hr d hd').1, List.any_eq_true]
   exact ⟨d, hd', by simp⟩
  | false =>
   cases hd2 : hasF x y (Qbi 0 (x :: r)) d with
   | false => rfl
   | true =>
    obtain ⟨_, k1, k2, k3⟩ := (Qbo ..).1 hd2
    rw [hon d (by omega), List.any_eq_true] at k3
    obtain ⟨e, he, hw⟩ := k3
    have he2 := (Qbo ..).1 ((hm e).1 he)
    have := (Qbo a b c d).2 ⟨hx.1, by omega, by omega, by rw [← Qup (by simpa using hw)]; exact he2.2.2.2⟩
    rw [this] at hd
    cases hd
theorem QnU {l : List Int} {d : Int} (h : d ∈ l) : ∃ w, ofF l = some w := by
 cases l with
 | nil => simp at h
 | cons x r => exact ⟨_, rfl⟩
theorem QrS {a b c d : Int} (h : hasF a b c d = true) : perE a b c = 0 := ((Qbo ..).1 h).1
theorem QtL {a b c a' b' c' : Int} (ha : perE a b c = 0) (hb : perE a' b' c' = 0) : QdM a b c a' b' c' = Qan (maxP a a') (minP b b') (andD c c') := by
 obtain ⟨b0, b1, b2, b3, b4, b5⟩ := Qey hb
 unfold QdM
 refine Asc.ext ((QbV _ _ _).filter _) (QbV _ _ _) fun x => ?_
 rw [QsG ha (by omega), List.mem_filter, Qcy, Qbo a' b' c']
 constructor
 ·rintro ⟨q1, _, q2, q3, q4⟩; exact ⟨q1, q2, q3, q4⟩
 ·rintro ⟨q1, q2, q3, q4⟩; exact ⟨q1, hb, q2, q3, q4⟩
theorem mem_meet {a b c a' b' c' d : Int} : d ∈ QdM a b c a' b' c' ↔ hasF a b c d = true ∧ hasF a' b' c' d = true := by
 unfold QdM
 rw [List.mem_filter, Qcy]
theorem QuA {a b c a' b' c' : Int} {q : P3} (h : Qd6 a b c a' b' c' = some q) : perE q.1 q.2.1 q.2.2 = 0 ∧ ∀ d, hasQ q d = (hasF a b c d && hasF a' b' c' d) := by
 unfold Qd6 at h
 obtain ⟨d0, hd0⟩ : ∃ d, d ∈ QdM a b c a' b' c' := by
  cases hm : QdM a b c a' b' c' with
  | nil => rw [hm] at h; cases h
  | cons x r => exact ⟨x, by simp⟩
 obtain ⟨h1, h2⟩ := mem_meet.1 hd0
 have e := QtL (QrS h1) (QrS h2)
 rw [e] at h
 obtain ⟨k1, k2⟩ := QiE h
 refine ⟨k1, fun d => ?_⟩
 rw [k2, Bool.eq_iff_iff, Bool.and_eq_true, ← Qcy, ← e, mem_meet]
theorem Qtw {a b c a' b' c' : Int} : (Qd6 a b c a' b' c').isSome = true ↔ ∃ d, hasF a b c d = true ∧ hasF a' b' c' d = true := by
 constructor
 ·intro h
  unfold Qd6 at h
  cases hm : QdM a b c a' b' c' with
  | nil => rw [hm] at h; cases h
  | cons x r => exact ⟨x, mem_meet.1 (by rw [hm]; simp)⟩
 ·rintro ⟨d, h⟩
  obtain ⟨w, hw⟩ := QnU (mem_meet.2 h)
  unfold Qd6
  rw [hw]; rfl
def Qea (f : Fl) (d : Int) : Bool := hasF f.fr f.to f.days d
def Sub (z f : Fl) : Prop := z.car = f.car ∧ z.num = f.num ∧ ∀ d, Qea z d = true → Qea f d = true
def Dis (f g : Fl) : Prop := f.car = g.car → f.num = g.num → ∀ d, ¬ (Qea f d = true ∧ Qea g d = true)
theorem Sub.rfl' (f : Fl) : Sub f f := ⟨rfl, rfl, fun _ h => h⟩
theorem Dis.symm {f g : Fl} (h : Dis f g) : Dis g f := fun h1 h2 d ⟨h3, h4⟩ => h h1.symm h2.symm d ⟨h4, h3⟩
theorem Dis.sub {f g z y : Fl} (h : Dis f g) (h1 : Sub z f) (h2 : Sub y g) : Dis z y := fun e1 e2 d ⟨h3, h4⟩ =>
 h (h1.1.symm.trans (e1.trans h2.1)) (h1.2.1.symm.trans (e2.trans h2.2.1)) d ⟨h1.2.2 d h3, h2.2.2 d h4⟩
theorem QnC (f g : Fl) : Qb1 f g = true ↔ f.car = g.car ∧ f.num = g.num ∧ ∃ d, Qea f d = true ∧ Qea g d = true := by
 unfold Qb1
 rw [Bool.and_eq_true, Bool.and_eq_true, Qtw, beq_iff_eq, beq_iff_eq]
 rfl
theorem QoJ (f g : Fl) : Qb1 f g = false ↔ Dis f g := by
 constructor
 ·intro h h1 h2 d hd
  rw [(QnC f g).2 ⟨h1, h2, d, hd⟩] at h
  cases h
 ·intro h
  cases hm : Qb1 f g with
  | false => rfl
  | true =>
   obtain ⟨h1, h2, d, hd⟩ := (QnC f g).1 hm
   exact absurd hd (h h1 h2 d)
theorem Qq0 {p : Pc} : ∀ {t q : List Fl}, Qdu p q t = [] ↔ (∀ f ∈ t, QaL p f = [] ∧ ∀ g ∈ q, Dis g f) ∧ t.Pairwise Dis
 | [], q => by simp [Qdu]
 | f :: t, q => by
  unfold Qdu
  rw [List.append_eq_nil_iff, Qq0 (t := t), List.pairwise_cons]
  have h8 : ft8 p q.length (q.any (Qb1 · f)) f = [] ↔ QaL p f = [] ∧ ∀ g ∈ q, Dis g f := by
   unfold ft8
   rw [List.append_eq_nil_iff, List.map_eq_nil_iff]
   refine and_congr_right fun _ => ?_
   constructor
   ·intro h g hg
    cases ha : q.any (Qb1 · f) with
    | true => rw [ha] at h; cases h
    | false =>
     have := List.any_eq_false.1 ha g hg
     exact (QoJ g f).1 (by simpa using this)
   ·intro h
    rw [List.any_eq_false.2 fun g hg => by rw [(QoJ g f).2 (h g hg)]; simp]
    rfl
  rw [h8]
  constructor
  ·rintro ⟨⟨h1, h2⟩, h3, h4⟩
   refine ⟨fun g hg => ?_, ⟨fun g hg => (h3 g hg).2 f (by simp), h4⟩⟩
   rcases List.mem_cons.1 hg with rfl | hg
   ·exact ⟨h1, h2⟩
   ·exact ⟨(h3 g hg).1, fun x hx => (h3 g hg).2 x (by simp [hx])⟩
  ·rintro ⟨h1, h2, h3⟩
   refine ⟨h1 f (by simp), fun g hg => ⟨(h1 g (by simp [hg])).1, fun x hx => ?_⟩, h3⟩
   rcases List.mem_append.1 hx with hx | hx
   ·exact (h1 g (by simp [hg])).2 x hx
   ·simp at hx; subst hx; exact h2 g hg
theorem QjN {p : Pc} {l : List Fl} : Qdu p [] l = [] ↔ (∀ f ∈ l, QaL p f = []) ∧ l.Pairwise Dis := by
 rw [Qq0]
 simp
theorem Qmh {p : Pc} {l : List Lg} : ∀ {D : List Int}, (∀ d ∈ D, ordF p l d = true) → QcV p l D = []
 | [], _ => rfl
 | d :: D, h => by
  unfold QcV
  rw [if_pos (h d (by simp))]
  exact Qmh fun e he => h e (by simp [he])
theorem QoS {f g : Fl} (h1 : g.car = f.car) (h2 : g.num = f.num) (h : perE g.fr g.to g.days = 0) (hf : QdO f = []) : QdO g = [] := by
 unfold QdO at hf ⊢
 obtain ⟨h3, _⟩ := List.append_eq_nil_iff.1 hf
 rw [h1, h2, h3, h]
 rfl
theorem QtW {p : Pc} {f g : Fl} (hl : g.legs = f.legs) (hp : perE g.fr g.to g.days = 0) (hs : Sub g f) (hf : QaL p f = []) : QaL p g = [] := by
 obtain ⟨c1, c2, c3, c4, c5⟩ := QgL hf
 unfold QaL
 rw [hl, if_neg (by omega), QoS hs.1 hs.2.1 hp c3, c4, if_pos (show ([] ++ [] : List Ft) = [] from rfl)]
 exact Qmh fun d hd => c5 d (hs.2.2 d (Qcy.1 hd))
def From2 (r : Rv) (l : List Fl) (z : Fl) : Prop := (z ∈ l ∧ QpV z r = false) ∨ (∃ f ∈ l, QpV f r = true ∧ z ∈ Qwi f r) ∨ (r.kind ≠ 2 ∧ ∃ f ∈ l, QpV f r = true ∧ z = Qt6 r f (qOf f r))
theorem From2.cons {r : Rv} {l : List Fl} {f z : Fl} (h : From2 r l z) : From2 r (f :: l) z := by
 rcases h with ⟨h1, h2⟩ | ⟨g, h1, h2⟩ | ⟨hk, g, h1, h2⟩
 ·exact .inl ⟨by simp [h1], h2⟩
 ·exact .inr (.inl ⟨g, by simp [h1], h2⟩)
 ·exact .inr (.inr ⟨hk, g, by simp [h1], h2⟩)
end Go.Proofs
set_option linter.unusedSimpArgs false
set_option linter.unusedVariables false
namespace Go.Proofs
open Go.Am
variable (lb : Nat)
theorem QcB {car : Bs} {num day : Int} {f : Fl} : onB car num day f = true ↔ f.car = car ∧ f.num = num ∧ Qea f day = true := by
 unfold onB
 rw [Bool.and_eq_true, Bool.and_eq_true, beq_iff_eq, beq_iff_eq]
 rfl
theorem Qqy {car : Bs} {num day : Int} {z : Fl} (ho : onB car num day z = true) : ∀ {l : List Fl}, l.Pairwise Dis → z ∈ l → QbJ car num day l = some z
 | f :: t, hd, hz => by
  have h1 := List.pairwise_cons.1 hd
  unfold QbJ
  rcases List.mem_cons.1 hz with rfl | hz
  ·rw [if_pos ho]
  ·cases hf : onB car num day f with
   | true =>
    obtain ⟨a1, a2, a3⟩ := QcB.1 hf
    obtain ⟨b1, b2, b3⟩ := QcB.1 ho
    exact absurd ⟨a3, b3⟩ (h1.1 z hz (a1.trans b1.symm) (a2.trans b2.symm) day)
   | false => simp only [Bool.false_eq_true, if_false]; exact Qqy ho h1.2 hz
theorem Qkl {car : Bs} {num day : Int} : ∀ {l : List Fl}, QbJ car num day l = none ↔ ∀ f ∈ l, onB car num day f = false
 | [] => by simp [QbJ]
 | f :: t => by
  unfold QbJ
  cases hf : onB car num day f with
  | true => simp [hf]
  | false => simp [hf, Qkl (l := t)]
def Qla (o : Option Fl) : List Lg := (o.getD fl0).legs
def QkN (l x : List Fl) (car : Bs) (num day : Int) : Bool := ((QbJ car num day l).isSome == (QbJ car num day x).isSome) && lgsB (Qla (QbJ car num day l)) (Qla (QbJ car num day x))
theorem QoG {l : List Fl} {car : Bs} {num day : Int} (h : ∀ f ∈ l, f.legs.length ≤ 1000) : (Qla (QbJ car num day l)).length ≤ 1000 := by
 unfold Qla
 cases hf : QbJ car num day l with
 | none => simp [fl0]
 | some f => exact h f (QkB hf).1
theorem Qpf (an bn : Bool) (l x : List Fl) (hl : ∀ f ∈ l, f.legs.length ≤ 1000) (hx : ∀ f ∈ x, f.legs.length ≤ 1000) (hll : l.length ≤ 1000000) (hxl : x.length ≤ 1000000) (car : Bs) (num day : Int) :
  Ret lb Qis [.list an (l.map flE), .list bn (x.map flE), .str car, .int .i64 num, .int .i64 day] (.bool (QkN l x car num day)) := by
 have h3 := QeO lb ((QbJ car num day l).getD fl0).ln ((QbJ car num day x).getD fl0).ln (Qla (QbJ car num day l)) (Qla (QbJ car num day x)) (QoG hl) (QoG hx)
 refine .top rfl (Evt.imp2 (Qnk lb an l car num day hll) ((Qnk lb bn x car num day hxl).and h3) fun n h1 ⟨h2, h3⟩ => ?_)
 rw [QqQ]
 refine stO _ h1 (stO _ rfl (stO _ rfl (stO _ rfl (stO _ rfl (stO _ rfl (stC rfl (stO _ rfl (stO _ rfl (stO _ rfl (stO _ rfl (stO _ rfl (stO _ rfl ?_))))))))))))
 refine stO _ h2 (stO _ rfl (stO _ rfl (stO _ rfl (stO _ rfl (stO _ rfl (stC rfl (stO _ rfl (stO _ rfl (stO _ rfl (stO _ rfl (stO _ rfl (stO _ rfl ?_))))))))))))
 refine stO _ (QaH _) (stO _ (QaH _) ?_)
 unfold QkN
 cases (QbJ car num day l).isSome == (QbJ car num day x).isSome with
 | false => exact stF rfl rfl
 | true => exact stT rfl (stO _ h3 rfl)
end Go.Proofs
set_option linter.unusedSimpArgs false
set_option linter.unusedVariables false
namespace Go.Proofs
open Go.Am
variable (lb : Nat)
def Qbm (q : P3) : List Int := Qan q.1 q.2.1 q.2.2
theorem Qa3 {q : P3} {d : Int} : d ∈ Qbm q ↔ hasQ q d = true := Qcy
def Canon (q : P3) : Prop := ofF (Qbm q) = some q
theorem Quo {a b c : Int} {q : P3} (h : ofF (Qan a b c) = some q) : Canon q := by
 have e : Qbm q = Qan a b c := Asc.ext (QbV _ _ _) (QbV _ _ _) fun x => by
  rw [Qa3, Qcy, (QiE h).2]
 unfold Canon
 rw [e]; exact h
theorem Canon.per {q : P3} (h : Canon q) : perE q.1 q.2.1 q.2.2 = 0 := (QiE h).1
theorem Qst {l : List Int} {q : P3} (h : ofF l = some q) : l ≠ [] ∧ q.1 ∈ l ∧ q.2.1 ∈ l ∧ q.2.2 = Qbi 0 l := by
 cases l with
 | nil => cases h
 | cons x r =>
  have hl := QqW (x :: r) (by simp)
  simp only [ofF, Option.some.injEq] at h
  subst h
  exact ⟨by simp, by simp, hl, rfl⟩
def orD (a b : Int) : Int := IntKind.wrap .i64 ((BitVec.ofInt 64 a ||| BitVec.ofInt 64 b).toNat)
def Qao (a b : P3) : P3 := (minP a.1 b.1, maxP a.2.1 b.2.1, orD a.2.2 b.2.2)
theorem QvL {a b : Nat} (ha : a < 128) (hb : b < 128) : orD a b = ((a ||| b : Nat) : Int) := by
 unfold orD
 have h1 : (BitVec.ofInt 64 (a : Int)).toNat = a := by simp; omega
 have h2 : (BitVec.ofInt 64 (b : Int)).toNat = b := by simp; omega
 have h3 : a ||| b < 2 ^ 7 := Nat.or_lt_two_pow (by omega) (by omega)
 rw [BitVec.toNat_or, h1, h2, Qaz (by omega) (by omega)]
theorem QrY {a b : Int} (ha : 0 ≤ a ∧ a < 128) (hb : 0 ≤ b ∧ b < 128) (d : Int) : onF (orD a b) d = (onF a d || onF b d) := by
 obtain ⟨x, rfl⟩ := Int.eq_ofNat_of_zero_le ha.1
 obtain ⟨y, rfl⟩ := Int.eq_ofNat_of_zero_le hb.1
 rw [QvL (by omega) (by omega), QgW, QgW, QgW, Nat.testBit_or]
def decB (f : Int → Bool) : Int := (if f 2 then 1 else 0) + (if f 3 then 2 else 0) + (if f 4 then 4 else 0) + (if f 5 then 8 else 0) + (if f 6 then 16 else 0) + (if f 0 then 32 else 0) + (if f 1 then 64 else 0)
theorem Qtt : ∀ x : Fin 128, decB (onF ((x.val : Nat) : Int)) = ((x.val : Nat) : Int) := by decide +kernel
theorem Qvq {x y : Int} (hx : 0 ≤ x ∧ x < 128) (hy : 0 ≤ y ∧ y < 128) (h : ∀ d, 0 ≤ d → onF x d = onF y d) : x = y := by
 obtain ⟨a, rfl⟩ := Int.eq_ofNat_of_zero_le hx.1
 obtain ⟨b, rfl⟩ := Int.eq_ofNat_of_zero_le hy.1
 have h1 := Qtt ⟨a, by omega⟩
 have h2 := Qtt ⟨b, by omega⟩
 have : decB (onF ((a : Nat) : Int)) = decB (onF ((b : Nat) : Int)) := by
  unfold decB
  rw [h 0 (by omega), h 1 (by omega), h 2 (by omega), h 3 (by omega), h 4 (by omega), h 5 (by omega), h 6 (by omega)]
 rw [← h1, ← h2]; exact this
theorem Qdh {q : P3} (h : perE q.1 q.2.1 q.2.2 = 0) : 0 ≤ q.2.2 ∧ q.2.2 < 128 := by
 obtain ⟨_, _, _, _, h5, h6⟩ := Qey h
 omega
theorem Qiz {a b : P3} (ha : perE a.1 a.2.1 a.2.2 = 0) (hb : perE b.1 b.2.1 b.2.2 = 0) (hw : perE (Qao a b).1 (Qao a b).2.1 (Qao a b).2.2 = 0) {d : Int} (h : hasQ a d = true ∨ hasQ b d = true) : hasQ (Qao a b) d = true := by
 have hra := Qdh ha
 have hrb := Qdh hb
 refine (Qbo ..).2 ⟨hw, ?_, ?_, ?_⟩
 ·show minP a.1 b.1 ≤ d
  rcases h with h | h <;> · have := (Qbo ..).1 h; unfold minP; split <;> omega
 ·show d ≤ maxP a.2.1 b.2.1
  rcases h with h | h <;> · have := (Qbo ..).1 h; unfold maxP; split <;> omega
 ·show onF (orD a.2.2 b.2.2) d = true
  rw [QrY hra hrb]
  rcases h with h | h
  ·rw [((Qbo ..).1 h).2.2.2]; rfl
  ·rw [((Qbo ..).1 h).2.2.2]; simp
def covB (a b : P3) : Bool := (Qbm (Qao a b)).all fun d => hasQ a d || hasQ b d
theorem QlH {a b : P3} (ha : Canon a) (hb : Canon b) (hw : perE (Qao a b).1 (Qao a b).2.1 (Qao a b).2.2 = 0) (hc : covB a b = true) : Canon (Qao a b) := by
 have pa := ha.per
 have pb := hb.per
 have hra := Qdh pa
 have hrb := Qdh pb
 have hrw := Qdh hw
 obtain ⟨_, a1, a2, a3⟩ := Qst ha
 obtain ⟨_, b1, b2, b3⟩ := Qst hb
 have cov : ∀ d ∈ Qbm (Qao a b), hasQ a d = true ∨ hasQ b d = true := fun d hd => by
  have := List.all_eq_true.1 hc d hd
  simpa using this
 have up : ∀ d, hasQ a d = true ∨ hasQ b d = true → d ∈ Qbm (Qao a b) := fun d h => Qa3.2 (Qiz pa pb hw h)
 have m1 : (Qao a b).1 ∈ Qbm (Qao a b) := up _ (by
  show hasQ a (minP a.1 b.1) = true ∨ hasQ b (minP a.1 b.1) = true
  unfold minP
  split
  ·exact .inr (Qa3.1 b1)
  ·exact .inl (Qa3.1 a1))
 have m2 : (Qao a b).2.1 ∈ Qbm (Qao a b) := up _ (by
  show hasQ a (maxP a.2.1 b.2.1) = true ∨ hasQ b (maxP a.2.1 b.2.1) = true
  unfold maxP
  split
  ·exact .inr (Qa3.1 b2)
  ·exact .inl (Qa3.1 a2))
 obtain ⟨q, hq⟩ := QnU m1
 obtain ⟨q0, q1, q2, q3⟩ := Qst hq
 obtain ⟨p1, p2⟩ := QiE hq
 have lo : ∀ d ∈ Qbm (Qao a b), (Qao a b).1 ≤ d ∧ d ≤ (Qao a b).2.1 := fun d hd => by
  have := (Qbo ..).1 (Qa3.1 hd)
  exact ⟨this.2.1, this.2.2.1⟩
 have lq : ∀ d ∈ Qbm (Qao a b), q.1 ≤ d ∧ d ≤ q.2.1 := fun d hd => by
  have h := Qa3.1 hd
  unfold hasQ at h
  rw [← p2] at h
  have := (Qbo ..).1 h
  exact ⟨this.2.1, this.2.2.1⟩
 have e1 : q.1 = (Qao a b).1 := by
  have := (lo _ q1).1
  have := (lq _ m1).1
  omega
 have e2 : q.2.1 = (Qao a b).2.1 := by
  have := (lo _ q2).2
  have := (lq _ m2).2
  omega
 have nn : ∀ (x : P3), ∀ e ∈ Qbm x, 0 ≤ e := fun x e he => (Qe0 he).1
 have on : ∀ (x : P3), ∀ d, 0 ≤ d → onF (Qbi 0 (Qbm x)) d = (Qbm x).any fun e => decide (QaF e = QaF d) := fun x d hd => by
  rw [Qmj hd _ _ (nn x) (by omega), Qlf, Bool.false_or]
 have e3 : q.2.2 = (Qao a b).2.2 := by
  refine Qvq (Qdh p1) hrw fun d hd => ?_
  show onF q.2.2 d = onF (orD a.2.2 b.2.2) d
  rw [QrY hra hrb, q3, a3, b3, on _ d hd, on _ d hd, on _ d hd, Bool.eq_iff_iff, Bool.or_eq_true, List.any_eq_true, List.any_eq_true, List.any_eq_true]
  constructor
  ·rintro ⟨e, he, hw⟩
   rcases cov e he with h | h
   ·exact .inl ⟨e, Qa3.2 h, hw⟩
   ·exact .inr ⟨e, Qa3.2 h, hw⟩
  ·rintro (⟨e, he, hw⟩ | ⟨e, he, hw⟩)
   ·exact ⟨e, up e (.inl (Qa3.1 he)), hw⟩
   ·exact ⟨e, up e (.inr (Qa3.1 he)), hw⟩
 have e4 : q = Qao a b := Prod.ext e1 (Prod.ext e2 e3)
 rw [e4] at hq
 exact hq
def QcM (a b : P3) : Option P3 := if perE (Qao a b).1 (Qao a b).2.1 (Qao a b).2.2 = 0 ∧ covB a b = true then some (Qao a b) else none
theorem Qrz {a b q : P3} (ha : Canon a) (hb : Canon b) (h : QcM a b = some q) : Canon q ∧ ∀ d, hasQ q d = (hasQ a d || hasQ b d) := by
 unfold QcM at h
 split at h
 ·rename_i hh
  simp only [Option.some.injEq] at h
  subst h
  refine ⟨QlH ha hb hh.1 hh.2, fun d => ?_⟩
  rw [Bool.eq_iff_iff, Bool.or_eq_true]
  constructor
  ·intro h
   have := List.all_eq_true.1 hh.2 d (Qa3.2 h)
   simpa using this
  ·exact Qiz ha.per hb.per hh.1
 ·cases h
def QuX (o : Option P3) : CV := match o with
 | some q => .tup [.agg (pcv3 q), .bool true]
 | none => .tup [.agg [.int .i64 0, .int .i64 0, .int .i64 0], .bool false]
theorem QuS (n : Nat) (a b : P3) (D : List Int) (hD : D.length ≤ 1000) (b0 : Bool) (ha : ∀ d ∈ D, C lb n Qdd [.agg (pcv3 a), .int .i64 d] = some (.bool (hasQ a d))) (hb : ∀ d ∈ D, C lb n Qdd [.agg (pcv3 b), .int .i64 d] = some (.bool (hasQ b d))) : ∀ (t u : List Int) (k : Nat), u ++ t = D → t.length < k →
  revision_join_L1 lb n k a.1 a.2.1 a.2.2 b.1 b.2.1 b.2.2 (.list b0 (dcv D)) (b0, dcv D) (u.length : Int) = if t.all fun d => hasQ a d || hasQ b d then QeL lb n a.1 a.2.1 a.2.2 b.1 b.2.1 b.2.2 else some (QuX none)
 | [], u, k, h, hk => by
  obtain ⟨k, rfl⟩ : ∃ m, k = m + 1 := ⟨k - 1, by simp at hk; omega⟩
  have hu : u = D := by simpa using h
  rw [QeZ, hu]
  exact stF (decF (by simp [dcv])) rfl
 | d :: t, u, k, h, hk => by
  obtain ⟨k, rfl⟩ : ∃ m, k = m + 1 := ⟨k - 1, by simp at hk; omega⟩
  have hlen : D.length = u.length + (t.length + 1) := by rw [← h]; simp
  have hw1 : IntKind.wrap .i64 ((u.length : Int) + 1) = ((u ++ [d]).length : Int) := by rw [Qaz (by omega) (by omega)]; simp
  have ih := QuS n a b D hD b0 ha hb t (u ++ [d]) k (by rw [← h]; simp) (by simp at hk; omega)
  have hd : d ∈ D := by rw [← h]; simp
  have h1 := ha d hd
  have h2 := hb d hd
  rw [QeZ, hw1, List.all_cons]
  refine stT (decT (by simp [dcv]; omega)) (stO _ (QaV ..) (stO _ (QaI (QfL h)) (stC rfl (stO _ rfl (stO _ h1 (stO _ (QaH _) ?_))))))
  cases c1 : hasQ a d with
  | true => exact stF rfl (by simpa using ih)
  | false =>
   refine stT rfl (stO _ h2 (stO _ (QaH _) ?_))
   cases c2 : hasQ b d with
   | true => exact stF rfl (by simpa using ih)
   | false => exact stT rfl rfl
theorem Qlk (a b : P3) (ha : Canon a) (hb : Canon b) : Ret lb QaW [.agg (pcv3 a), .agg (pcv3 b)] (QuX (QcM a b)) := by
 have hc := Qhr lb (Qao a b).1 (Qao a b).2.1 (Qao a b).2.2
 unfold QcM
 by_cases hw : perE (Qao a b).1 (Qao a b).2.1 (Qao a b).2.2 = 0
 ·have hN := Qgv lb (Qao a b).1 (Qao a b).2.1 (Qao a b).2.2
  have hD := Qdj (Qao a b).1 (Qao a b).2.1 (Qao a b).2.2
  refine .top rfl (Evt.imp2 (hc.and (Ret.and (QmB lb (Qao a b).1 (Qao a b).2.1 (Qao a b).2.2) (Evt.ge 900))) (hN.and ((Evt.fin (Qbm (Qao a b)) fun d _ => QiW lb a.1 a.2.1 a.2.2 d).and (Evt.fin (Qbm (Qao a b)) fun d _ => QiW lb b.1 b.2.1 b.2.2 d))) fun n ⟨h1, h2, h3⟩ ⟨h4, h5, h6⟩ => ?_)
  rw [hw] at h1
  have z := QuS lb n a b (Qbm (Qao a b)) (Nat.le_trans hD (by omega)) (Qbm (Qao a b)).isEmpty h5 h6 (Qbm (Qao a b)) [] n rfl (Nat.lt_of_le_of_lt hD (by omega))
  rw [show ((Qbm (Qao a b)).all fun d => hasQ a d || hasQ b d) = covB a b from rfl] at z
  refine (Qhm lb n a.1 a.2.1 a.2.2 b.1 b.2.1 b.2.2).trans ?_
  refine stO _ h1 (stO _ (QaO ..) (stF rfl (stO _ h2 (stO _ (QaV ..) (z.trans ?_)))))
  by_cases hv : covB a b = true
  ·rw [if_pos hv, if_pos ⟨hw, hv⟩, QjY]
   have hq := QlH ha hb hw hv
   unfold Canon Qbm at hq
   rw [hq] at h4
   exact stO _ h4 rfl
  ·rw [if_neg hv, if_neg fun h => hv h.2]
 ·rw [if_neg fun h => hw h.1]
  refine .top rfl (hc.mono fun n h1 => ?_)
  refine (Qhm lb n a.1 a.2.1 a.2.2 b.1 b.2.1 b.2.2).trans ?_
  exact stO _ h1 (stO _ (QaO ..) (stT (bneT hw) rfl))
theorem QpY (p q : Int → Bool) : ∀ W : List Int, (W.filter p).length + (W.filter q).length = (W.filter fun d => p d && q d).length + (W.filter fun d => p d || q d).length
 | [] => rfl
 | x :: t => by
  have ih := QpY p q t
  simp only [List.filter_cons]
  cases p x <;> cases q x <;> simp <;> omega
theorem Qop (p : Int → Bool) : ∀ W : List Int, (W.filter p).length = W.length ↔ W.all p = true
 | [] => by simp
 | x :: t => by
  have ih := Qop p t
  have := List.length_filter_le p t
  simp only [List.filter_cons, List.all_cons]
  cases p x
  ·simp; omega
  ·simp
theorem QvI {a b : P3} (ha : perE a.1 a.2.1 a.2.2 = 0) (hb : perE b.1 b.2.1 b.2.2 = 0) (hw : perE (Qao a b).1 (Qao a b).2.1 (Qao a b).2.2 = 0) : Qbm a = (Qbm (Qao a b)).filter (hasQ a) ∧ Qbm b = (Qbm (Qao a b)).filter (hasQ b) ∧ QdM a.1 a.2.1 a.2.2 b.1 b.2.1 b.2.2 = (Qbm (Qao a b)).filter fun d => hasQ a d && hasQ b d := by
 refine ⟨Asc.ext (QbV _ _ _) ((QbV _ _ _).filter _) fun x => ?_, Asc.ext (QbV _ _ _) ((QbV _ _ _).filter _) fun x => ?_, Asc.ext ((QbV _ _ _).filter _) ((QbV _ _ _).filter _) fun x => ?_⟩
 ·rw [List.mem_filter, Qa3, Qa3]
  exact ⟨fun h => ⟨Qiz ha hb hw (.inl h), h⟩, fun h => h.2⟩
 ·rw [List.mem_filter, Qa3, Qa3]
  exact ⟨fun h => ⟨Qiz ha hb hw (.inr h), h⟩, fun h => h.2⟩
 ·rw [List.mem_filter, Qa3, mem_meet, Bool.and_eq_true]
  exact ⟨fun h => ⟨Qiz ha hb hw (.inl h.1), h⟩, fun h => h.2⟩
theorem QeG (a b c : Int) : Ret lb QdB [.agg [.int .i64 a, .int .i64 b, .int .i64 c]] (.int .i64 ((Qan a b c).length : Int)) := by
 refine .top rfl ((Qfc lb a b c).mono fun n h => ?_)
 rw [QpU]
 exact stO _ h (stO _ (QaV ..) (by simp [dcv]))
theorem QnR (a b c : Int) : Ret lb Qhz [.agg [.int .i64 a, .int .i64 b, .int .i64 c]] (optP (ofF (Qan a b c))) := by
 have hD := Qdj a b c
 refine .top rfl (Evt.imp2 (Qfc lb a b c) (Qng lb (Qan a b c).isEmpty (Qan a b c) (by omega) (Qg9 a b c)) fun n h h2 => ?_)
 rw [Qpb]
 refine stO _ h (stO _ h2 ?_)
 cases ofF (Qan a b c) with
 | none => rfl
 | some q => rfl
def bitJ (x : Int) (j : Nat) : Bool := Int.tmod (IntKind.wrap .i64 (Int.tdiv x (2 ^ j))) 2 == 1
def sumJ (a b : Int) : Nat → Int → Int
 | 0, acc => acc
 | k + 1, acc => sumJ a b k (if bitJ a (6 - k) || bitJ b (6 - k) then acc + 2 ^ (6 - k) else acc)
theorem Qvd : ∀ (a b : Fin 128), sumJ ((a.val : Nat) : Int) ((b.val : Nat) : Int) 7 0 = orD ((a.val : Nat) : Int) ((b.val : Nat) : Int) := by decide +kernel
theorem QwJ : ∀ j : Fin 7, (2 : Int) ^ j.val ≤ 64 ∧ 1 ≤ (2 : Int) ^ j.val ∧ IntKind.wrap .i64 (2 * 2 ^ j.val) = 2 ^ (j.val + 1) := by decide +kernel
theorem Qmm (n : Nat) (a b : P3) : ∀ (k m : Nat) (acc : Int), k ≤ 7 → k < m → 0 ≤ acc → acc < 2 ^ (7 - k) →
  Qc7 lb n m a.1 a.2.1 a.2.2 b.1 b.2.1 b.2.2 (2 ^ (7 - k)) acc = Qg2 lb n a.1 a.2.1 a.2.2 b.1 b.2.1 b.2.2 128 (sumJ a.2.2 b.2.2 k acc)
 | 0, m, acc, _, hm, _, _ => by
  obtain ⟨m, rfl⟩ : ∃ q, m = q + 1 := ⟨m - 1, by omega⟩
  rw [Qgt]
  exact stF rfl rfl
 | k + 1, m, acc, hk, hm, h0, h1 => by
  obtain ⟨m, rfl⟩ : ∃ q, m = q + 1 := ⟨m - 1, by omega⟩
  obtain ⟨p1, p2, p3⟩ := QwJ ⟨6 - k, by omega⟩
  simp only at p1 p2 p3
  have e : 7 - (k + 1) = 6 - k := by omega
  have e2 : 6 - k + 1 = 7 - k := by omega
  rw [e2] at p3
  have e3 : (2 : Int) ^ (7 - k) = 2 * 2 ^ (6 - k) := by rw [← e2, Int.pow_succ]; omega
  rw [e] at h1 ⊢
  have hwr : IntKind.wrap .i64 (acc + 2 ^ (6 - k)) = acc + 2 ^ (6 - k) := Qaz (by omega) (by omega)
  rw [Qgt, p3, hwr]
  refine stT (decT (by omega)) (stC (bneT (by omega)) ?_)
  have z1 := Qmm n a b k m (acc + 2 ^ (6 - k)) (by omega) (by omega) (by omega) (by omega)
  have z2 := Qmm n a b k m acc (by omega) (by omega) h0 (by omega)
  unfold sumJ
  cases c1 : bitJ a.2.2 (6 - k) with
  | true => exact stT c1 (by simpa using z1)
  | false =>
   refine stF c1 (stC (bneT (by omega)) ?_)
   cases c2 : bitJ b.2.2 (6 - k) with
   | true => exact stT c2 (by simpa using z1)
   | false => exact stF c2 (by simpa using z2)
def QtO (a b : P3) : CV := .tup [.agg (pcv3 (Qao a b)), .bool (QcM a b).isSome]
theorem Qpd (a b : P3) (ha : Canon a) (hb : Canon b) : Ret lb QbC [.agg (pcv3 a), .agg (pcv3 b)] (QtO a b) := by
 have pa := ha.per
 have pb := hb.per
 have hra := Qdh pa
 have hrb := Qdh pb
 have hs : sumJ a.2.2 b.2.2 7 0 = (Qao a b).2.2 := by
  obtain ⟨x, hx⟩ := Int.eq_ofNat_of_zero_le hra.1
  obtain ⟨y, hy⟩ := Int.eq_ofNat_of_zero_le hrb.1
  show _ = orD a.2.2 b.2.2
  rw [hx, hy]
  exact Qvd ⟨x, by omega⟩ ⟨y, by omega⟩
 have hM : ∃ m : P3, Ret lb Qbt [.agg (pcv3 a), .agg (pcv3 b)] (.tup [.agg (pcv3 m), .bool (Qd6 a.1 a.2.1 a.2.2 b.1 b.2.1 b.2.2).isSome]) ∧ (Qbm m).length = (QdM a.1 a.2.1 a.2.2 b.1 b.2.1 b.2.2).length := by
  have h := Qj7 lb a.1 a.2.1 a.2.2 b.1 b.2.1 b.2.2
  cases hm : Qd6 a.1 a.2.1 a.2.2 b.1 b.2.1 b.2.2 with
  | none =>
   rw [hm] at h
   refine ⟨(0, 0, 0), h, ?_⟩
   unfold Qd6 at hm
   cases hd : QdM a.1 a.2.1 a.2.2 b.1 b.2.1 b.2.2 with
   | nil => rfl
   | cons x r => rw [hd] at hm; cases hm
  | some m =>
   rw [hm] at h
   refine ⟨m, h, ?_⟩
   congr 1
   refine Asc.ext (QbV _ _ _) ((QbV _ _ _).filter _) fun x => ?_
   rw [Qa3, (QuA hm).2, Bool.and_eq_true]
   exact mem_meet.symm
 obtain ⟨m, hm, hml⟩ := hM
 have hq := QcP lb (Qao a b).1 (Qao a b).2.1 (Qao a b).2.2
 have c0 := QeG lb (Qao a b).1 (Qao a b).2.1 (Qao a b).2.2
 have c1 := QeG lb a.1 a.2.1 a.2.2
 have c2 := QeG lb b.1 b.2.1 b.2.2
 have c3 := QeG lb m.1 m.2.1 m.2.2
 refine .top rfl (Evt.imp2 (hm.and (hq.and (Evt.ge 10))) (c0.and (c1.and (c2.and c3))) fun n ⟨h1, h2, h3⟩ ⟨k0, k1, k2, k3⟩ => ?_)
 refine (Qqd lb n a.1 a.2.1 a.2.2 b.1 b.2.1 b.2.2).trans ?_
 refine (Qmm lb n a b 7 n 0 (by omega) (by omega) (by omega) (by decide)).trans ?_
 rw [hs, Qnw]
 refine stO _ h1 (stO _ rfl (stO _ rfl (stO _ rfl (stO _ rfl (stO _ rfl (stC rfl (stO _ rfl (stO _ rfl (stO _ rfl (stO _ h2 (stO _ (QaO ..) ?_)))))))))))
 unfold QtO
 by_cases hw : perE (Qao a b).1 (Qao a b).2.1 (Qao a b).2.2 = 0
 ·refine stT (beqT hw) (stO _ k0 (stO _ k1 (stO _ k2 (stO _ (QaO ..) (stO _ (QaO ..) (stO _ k3 (stO _ (QaO ..) (stO _ (QaO ..) ?_))))))))
  obtain ⟨d1, d2, d3⟩ := QvI pa pb hw
  have l1 := Qdj a.1 a.2.1 a.2.2
  have l2 := Qdj b.1 b.2.1 b.2.2
  have l3 := Qdj m.1 m.2.1 m.2.2
  have l0 := Qdj (Qao a b).1 (Qao a b).2.1 (Qao a b).2.2
  have cnt := QpY (hasQ a) (hasQ b) (Qbm (Qao a b))
  rw [← d1, ← d2, ← d3, ← hml] at cnt
  have all := Qop (fun d => hasQ a d || hasQ b d) (Qbm (Qao a b))
  unfold Qbm at cnt all
  rw [Qaz (x := ((Qan a.1 a.2.1 a.2.2).length : Int) + _) (by omega) (by omega), Qaz (by omega) (by omega)]
  have e : (((Qan (Qao a b).1 (Qao a b).2.1 (Qao a b).2.2).length : Int) == ((Qan a.1 a.2.1 a.2.2).length : Int) + ((Qan b.1 b.2.1 b.2.2).length : Int) - ((Qan m.1 m.2.1 m.2.2).length : Int)) = covB a b := by
   rw [Bool.eq_iff_iff, beq_iff_eq]
   unfold covB Qbm
   rw [← all]
   omega
  have e1 : (QcM a b).isSome = covB a b := by
   unfold QcM
   cases hc : covB a b with
   | true => rw [if_pos ⟨hw, rfl⟩]; rfl
   | false => rw [if_neg fun h => by cases h.2]; rfl
  rw [e, e1]
  rfl
 ·have e1 : (QcM a b).isSome = false := by
   unfold QcM
   rw [if_neg fun h => hw h.1]; rfl
  rw [e1]
  exact stF (beqF hw) rfl
end Go.Proofs
set_option linter.unusedSimpArgs false
set_option linter.unusedVariables false
namespace Go.Proofs
open Go.Am
variable (lb : Nat)
def perQ (f : Fl) : P3 := (f.fr, f.to, f.days)
structure PackF (f : Fl) : Prop where
 canon : Canon (perQ f)
 len : f.legs.length ≤ 1000
def QhV (a b : Fl) : Bool := (a.car == b.car) && ((a.num == b.num) && lgsB a.legs b.legs)
def QfX (a b : Fl) : Option Fl := match QcM (perQ a) (perQ b) with
 | some q => if QhV a b then some (Qbe a q) else none
 | none => none
theorem Qti (a b : Fl) (q : P3) : QhK (Qbe a q) (Qbe b q) = QhV a b := by simp [QhK, QhV, Qbe]
def Qn8 (a b : Fl) : CV := match QcM (perQ a) (perQ b) with
 | some q => .tup [.agg (flE (Qbe a q)), .bool (QhV a b)]
 | none => .tup [.agg (flE (Qbe a (0, 0, 0))), .bool false]
theorem Qj4 (a b : Fl) (ha : PackF a) (hb : PackF b) : Ret lb Qem [flcv a, flcv b] (Qn8 a b) := by
 have h1 := Qlk lb (perQ a) (perQ b) ha.canon hb.canon
 unfold Qn8
 cases hj : QcM (perQ a) (perQ b) with
 | none =>
  rw [hj] at h1
  refine .top rfl (h1.mono fun n h1 => ?_)
  rw [Qf8]
  exact stO _ h1 (stO _ rfl (stO _ rfl (stO _ rfl (stO _ rfl (stO _ rfl (stC rfl (stO _ rfl (stO _ rfl (stO _ rfl (stO _ rfl (stF rfl rfl)))))))))))
 | some q =>
  rw [hj] at h1
  have h2 := Qnq lb (Qbe a q) (Qbe b q) ha.len hb.len
  rw [Qti] at h2
  refine .top rfl (Evt.imp2 h1 h2 fun n h1 h2 => ?_)
  rw [Qf8]
  exact stO _ h1 (stO _ rfl (stO _ rfl (stO _ rfl (stO _ rfl (stO _ rfl (stC rfl (stO _ rfl (stO _ rfl (stO _ rfl (stO _ rfl (stT rfl (stO _ h2 rfl))))))))))))
def QcU (a : Fl) : List Fl → Option (Fl × List Fl)
 | [] => none
 | b :: t => match QfX a b with
  | some g => some (g, t)
  | none => (QcU a t).map fun x => (x.1, b :: x.2)
def Qbq : List Fl → Option (List Fl)
 | [] => none
 | a :: t => match QcU a t with
  | some x => some (x.1 :: x.2)
  | none => (Qbq t).map fun x => a :: x
abbrev LC := List (List CV)
theorem Qv7 (Q U T : LC) (a b : List CV) : (((Q ++ a :: (U ++ b :: T)).drop (Q.length + (U.length + 1) + 1)).take ((Q ++ a :: (U ++ b :: T)).length - (Q.length + (U.length + 1) + 1))) = T := by
 have e : Q ++ a :: (U ++ b :: T) = (Q ++ a :: (U ++ [b])) ++ T := by simp
 have e2 : Q.length + (U.length + 1) + 1 = (Q ++ a :: (U ++ [b])).length := by simp; omega
 rw [e, e2, List.drop_left]
 exact List.take_of_length_le (by simp; omega)
theorem Qv2 (Q U T : LC) (a b : List CV) : ∃ z, QbY (Q ++ a :: (U ++ b :: T)) (Q.length + (U.length + 1)) T = (Q ++ a :: (U ++ T)) ++ [z] := by
 have e : Q ++ a :: (U ++ b :: T) = (Q ++ a :: U) ++ b :: T := by simp
 have e2 : Q.length + (U.length + 1) = (Q ++ a :: U).length := by simp
 have hl : ((Q ++ a :: (U ++ b :: T)).drop (Q.length + (U.length + 1) + T.length)).length = 1 := by
  rw [List.length_drop]; simp; omega
 unfold QbY
 generalize hd : (Q ++ a :: (U ++ b :: T)).drop (Q.length + (U.length + 1) + T.length) = Z at hl
 obtain ⟨z, rfl⟩ : ∃ z, Z = [z] := List.length_eq_one_iff.1 hl
 refine ⟨z, ?_⟩
 rw [e, e2, List.take_left]
 simp
theorem Qwe (X : LC) (z c : List CV) (m k : Nat) (hk : k = X.length) (hm : m = X.length + 1) : QbY (X ++ [z]) k (List.replicate (m - k) c) = X ++ [c] := by
 subst hk hm
 unfold QbY
 rw [List.take_left, show X.length + 1 - X.length = 1 by omega]
 have : (X ++ [z]).drop (X.length + (List.replicate 1 c).length) = [] := List.drop_eq_nil_of_le (by simp)
 rw [this]
 simp
theorem Qwd (Q R : LC) (a c x : List CV) (k : Nat) (hk : k = (Q ++ a :: R).length) : ((setN ((Q ++ a :: R) ++ [c]) Q.length x).drop 0).take k = Q ++ x :: R := by
 have e : (Q ++ a :: R) ++ [c] = Q ++ a :: (R ++ [c]) := by simp
 rw [e, set1, List.drop_zero, hk]
 have e2 : Q ++ x :: (R ++ [c]) = (Q ++ x :: R) ++ [c] := by simp
 rw [e2, show (Q ++ a :: R).length = (Q ++ x :: R).length by simp, List.take_left]
def QiQ (q u : List Fl) (o : Option (Fl × List Fl)) (r : Option CV) : Option CV := match o with
 | some x => some (.tup [.list false ((q ++ x.1 :: (u ++ x.2)).map flE), .bool true])
 | none => r
theorem Ql4 (q u : List Fl) (b : Fl) (o : Option (Fl × List Fl)) (r : Option CV) : QiQ q (u ++ [b]) o r = QiQ q u (o.map fun x => (x.1, b :: x.2)) r := by
 cases o with
 | none => rfl
 | some x => simp [QiQ]
theorem Qr5 (l q s : List Fl) (a : Fl) (h0 : q ++ a :: s = l) (hl : ∀ f ∈ l, PackF f) (hll : l.length ≤ 1000) : ∀ (t u : List Fl), u ++ t = s → Evt fun n => ∀ k k0, t.length < k →
  Qdm lb n k k0 false (l.map flE) (q.length : Int) (flE a) (.str a.car) (.int .i64 a.num) (.int .i64 a.fr) (.int .i64 a.to) (.int .i64 a.days) (.list a.ln (a.legs.map lgcv)) ((q.length + (u.length + 1) : Nat) : Int) = QiQ q u (QcU a t) (revision_step_L1 lb n k0 false (l.map flE) (IntKind.wrap .i64 ((q.length : Int) + 1)))
 | [], u, h => by
  refine .all fun n k k0 hk => ?_
  obtain ⟨k, rfl⟩ : ∃ m, k = m + 1 := ⟨k - 1, by simp at hk; omega⟩
  have hu : u = s := by simpa using h
  rw [Qe3]
  refine stF (decF (by rw [← h0, ← hu]; simp)) ?_
  rw [Qj3]
  rfl
 | b :: t, u, h => by
  have hlen : l.length = q.length + (u.length + 1) + (t.length + 1) := by rw [← h0, ← h]; simp; omega
  have hw1 : IntKind.wrap .i64 (((q.length + (u.length + 1) : Nat) : Int) + 1) = ((q.length + (u.length + 1) + 1 : Nat) : Int) := by rw [Qaz (by omega) (by omega)]; omega
  have hb : (l.map flE)[q.length + (u.length + 1)]? = some (flE b) := by
   rw [← h0, ← h]
   rw [show q ++ a :: (u ++ b :: t) = (q ++ a :: u) ++ b :: t by simp, show q.length + (u.length + 1) = (q ++ a :: u).length by simp]
   simp
  have pa := hl a (by rw [← h0]; simp)
  have pb := hl b (by rw [← h0, ← h]; simp)
  have ih := Qr5 l q s a h0 hl hll t (u ++ [b]) (by rw [← h]; simp)
  have e1 : q.length + ((u ++ [b]).length + 1) = q.length + (u.length + 1) + 1 := by simp; omega
  refine Evt.imp2 (Qj4 lb a b pa pb) ih fun n h1 hi k k0 hk => ?_
  obtain ⟨k, rfl⟩ : ∃ m, k = m + 1 := ⟨k - 1, by simp at hk; omega⟩
  have hi := hi k k0 (by simp at hk; omega)
  rw [e1, Ql4] at hi
  rw [Qe3, hw1]
  refine stT (decT (by simp; omega)) (stO _ (QaI hb) (stC rfl (stO _ rfl (stO _ rfl (stO _ rfl (stO _ rfl (stO _ rfl (stO _ rfl (stO _ h1 ?_)))))))))
  unfold Qn8 QcU QfX
  cases hj : QcM (perQ a) (perQ b) with
  | none => exact stO _ rfl (stO _ rfl (stO _ rfl (stO _ rfl (stO _ rfl (stC rfl (stO _ rfl (stO _ rfl (stO _ rfl (stO _ rfl (stO _ rfl (stO _ rfl (stO _ rfl (stF rfl hi)))))))))))))
  | some w =>
   refine stO _ rfl (stO _ rfl (stO _ rfl (stO _ rfl (stO _ rfl (stC rfl (stO _ rfl (stO _ rfl (stO _ rfl (stO _ rfl (stO _ rfl (stO _ rfl (stO _ (QaH _) ?_))))))))))))
   cases hs : QhV a b with
   | false => exact stF rfl hi
   | true =>
    have eL : l.map flE = q.map flE ++ flE a :: (u.map flE ++ flE b :: t.map flE) := by rw [← h0, ← h]; simp
    have ql : (q.map flE).length = q.length := List.length_map _
    have ul : (u.map flE).length = u.length := List.length_map _
    have tl : (t.map flE).length = t.length := List.length_map _
    have hN : (l.map flE).length = q.length + (u.length + 1) + (t.length + 1) := by rw [List.length_map, hlen]
    have hT : (((l.map flE).drop (0 + (((q.length + (u.length + 1) + 1 : Nat) : Int)).toNat)).take (((((l.map flE).length : Nat) : Int).toNat) - (((q.length + (u.length + 1) + 1 : Nat) : Int)).toNat)) = t.map flE := by
     rw [Int.toNat_natCast, Int.toNat_natCast, Nat.zero_add, eL, ← ql, ← ul]
     exact Qv7 ..
    obtain ⟨z, hO⟩ := Qv2 (q.map flE) (u.map flE) (t.map flE) (flE a) (flE b)
    rw [← eL, ql, ul] at hO
    have hO2 : QbY (l.map flE) (0 + ((((q.length + (u.length + 1) : Nat) : Int)).toNat - 0)) (t.map flE) = (q.map flE ++ flE a :: (u.map flE ++ t.map flE)) ++ [z] := by
     rw [Int.toNat_natCast, Nat.sub_zero, Nat.zero_add]; exact hO
    have hX : (q.map flE ++ flE a :: (u.map flE ++ t.map flE)).length = q.length + (u.length + 1) + t.length := by simp; omega
    have hK : (0 + ((((((q.length + (u.length + 1) : Nat) : Int)).toNat - 0) + (t.map flE).length : Nat) : Int).toNat) = q.length + (u.length + 1) + t.length := by rw [tl]; omega
    have hR : ((((l.map flE).length : Nat) : Int).toNat - ((((((q.length + (u.length + 1) : Nat) : Int)).toNat - 0) + (t.map flE).length : Nat) : Int).toNat) = q.length + (u.length + 1) + t.length + 1 - (q.length + (u.length + 1) + t.length) := by rw [tl, hN]; omega
    have hM : QbY (QbY (l.map flE) (0 + ((((q.length + (u.length + 1) : Nat) : Int)).toNat - 0)) (t.map flE)) (0 + ((((((q.length + (u.length + 1) : Nat) : Int)).toNat - 0) + (t.map flE).length : Nat) : Int).toNat) (List.replicate ((((l.map flE).length : Nat) : Int).toNat - ((((((q.length + (u.length + 1) : Nat) : Int)).toNat - 0) + (t.map flE).length : Nat) : Int).toNat) [CV.str [], .int .i64 0, .int .i64 0, .int .i64 0, .int .i64 0, .list true []]) =
      (q.map flE ++ flE a :: (u.map flE ++ t.map flE)) ++ [[CV.str [], .int .i64 0, .int .i64 0, .int .i64 0, .int .i64 0, .list true []]] := by
     rw [hO2, hK, hR]
     exact Qwe _ _ _ _ _ hX.symm (by rw [hX])
    have hq0 : (0 + ((q.length : Nat) : Int).toNat) = q.length := by omega
    refine stT rfl (stF rfl (stC (by simp [flE]) (stC (Qb9 (by simp; omega) (by omega)) (stF (by rw [eL]; simp) (stC (decT (by omega)) (stC (decT (by rw [hN]; omega)) (stC (decT (by omega)) (stF (beqF (by omega)) (stC (decT (by rw [hN]; omega)) (stC (decT (by rw [hN]; omega)) (stC (decT (by rw [hN]; omega)) (stC ?_ (stC ?_ (stC (decT (by omega)) (stC ?_ (stC ?_ (stC ?_ (stO (flE a) ?_ (stC (decT (by simp [flE])) (stC ?_ ?_))))))))))))))))))))
    ·rw [hT, Bool.and_eq_true, decide_eq_true_eq, decide_eq_true_eq, tl, hN]; omega
    ·rw [hT]; simp [flE]
    ·rw [hT, decide_eq_true_eq, tl, hN]; omega
    ·rw [hT, decide_eq_true_eq, hO2, List.length_append, hX, tl, hN]; simp; omega
    ·rw [hT, Bool.and_eq_true, decide_eq_true_eq, decide_eq_true_eq, tl]; omega
    ·rw [hT, hM, hq0, List.append_assoc, ← ql]; simp
    ·rw [hT, hM, decide_eq_true_eq, hq0, tl]
     have e9 : ∀ (X : LC) (i : Nat) (x : List CV), (setN X i x).length = X.length := fun X => by
      induction X with
      | nil => intro i x; rfl
      | cons y X ih => intro i x; cases i with
       | zero => rfl
       | succ i => simp [setN, ih]
     rw [e9, List.length_append, hX]; simp; omega
    ·rw [hT, hM, hq0, tl, ← ql]
     have e8 := Qwd (q.map flE) (u.map flE ++ t.map flE) (flE a) [CV.str [], .int .i64 0, .int .i64 0, .int .i64 0, .int .i64 0, .list true []] (flE (Qbe a w)) ((((((q.map flE).length + (u.length + 1) : Nat) : Int)).toNat - 0) + t.length) (by simp; omega)
     have e7 : (q ++ Qbe a w :: (u ++ t)).map flE = q.map flE ++ flE (Qbe a w) :: (u.map flE ++ t.map flE) := by simp
     show _ = some (CV.tup [.list false ((q ++ Qbe a w :: (u ++ t)).map flE), .bool true])
     rw [e7, ← e8]
     rfl
theorem QrK (l : List Fl) (an : Bool) (han : an = l.isEmpty) (hl : ∀ f ∈ l, PackF f) (hll : l.length ≤ 1000) : ∀ (t q : List Fl), q ++ t = l → Evt fun n => ∀ k, t.length < k →
  revision_step_L1 lb n k an (l.map flE) (q.length : Int) = some (match Qbq t with
   | some t' => .tup [.list false ((q ++ t').map flE), .bool true]
   | none => .tup [.list an (l.map flE), .bool false])
 | [], q, h => by
  refine .all fun n k hk => ?_
  obtain ⟨k, rfl⟩ : ∃ m, k = m + 1 := ⟨k - 1, by simp at hk; omega⟩
  have hu : q = l := by simpa using h
  rw [QeX, hu]
  refine stF (decF (by simp)) ?_
  rw [QjZ]
  rfl
 | a :: t, q, h => by
  have hlen : l.length = q.length + (t.length + 1) := by rw [← h]; simp
  have han' : an = false := by rw [han, ← h]; simp
  have hw1 : IntKind.wrap .i64 ((q.length : Int) + 1) = ((q.length + (([] : List Fl).length + 1) : Nat) : Int) := by rw [Qaz (by omega) (by omega)]; simp
  have hw2 : IntKind.wrap .i64 ((q.length : Int) + 1) = ((q ++ [a]).length : Int) := by rw [Qaz (by omega) (by omega)]; simp
  refine Evt.imp2 (Evt.and (Qr5 lb l q t a h hl hll t [] rfl) (Evt.ge 1100)) (QrK l an han hl hll t (q ++ [a]) (by rw [← h]; simp)) fun n ⟨h1, hn⟩ hi k hk => ?_
  obtain ⟨k, rfl⟩ : ∃ m, k = m + 1 := ⟨k - 1, by simp at hk; omega⟩
  have hi := hi k (by simp at hk; omega)
  have h1 := h1 n k (by omega)
  rw [han'] at hi ⊢
  rw [hw2] at h1
  rw [QeX, hw1]
  refine stT (decT (by simp; omega)) (stO _ (QaI (Qdv h)) (stC rfl (stO _ rfl (stO _ rfl (stO _ rfl (stO _ rfl (stO _ rfl (stO _ rfl (h1.trans ?_)))))))))
  unfold Qbq
  cases hi2 : QcU a t with
  | some x => rfl
  | none =>
   refine hi.trans ?_
   cases Qbq t with
   | none => rfl
   | some t' => simp
def QhP (l : List Fl) : CV := match Qbq l with
 | some t' => .tup [.list t'.isEmpty (t'.map flE), .bool true]
 | none => .tup [.list l.isEmpty (l.map flE), .bool false]
theorem Qd0 : ∀ {l t : List Fl}, Qbq l = some t → t.isEmpty = false ∧ l.length = t.length + 1
 | [], t, h => by cases h
 | a :: s, t, h => by
  have inn : ∀ (s : List Fl) (x : Fl × List Fl), QcU a s = some x → s.length = x.2.length + 1 := fun s => by
   induction s with
   | nil => intro x h; cases h
   | cons b s ih =>
    intro x h
    unfold QcU at h
    cases hp : QfX a b with
    | some g => rw [hp] at h; simp only [Option.some.injEq] at h; subst h; rfl
    | none =>
     rw [hp] at h
     simp only [Option.map_eq_some_iff] at h
     obtain ⟨y, hy, rfl⟩ := h
     have := ih y hy
     simp; omega
  unfold Qbq at h
  cases hi : QcU a s with
  | some x =>
   rw [hi] at h
   simp only [Option.some.injEq] at h
   subst h
   have := inn s x hi
   exact ⟨rfl, by simp; omega⟩
  | none =>
   rw [hi] at h
   simp only [Option.map_eq_some_iff] at h
   obtain ⟨y, hy, rfl⟩ := h
   have := (Qd0 hy).2
   exact ⟨rfl, by simp; omega⟩
theorem Qgy (l : List Fl) (hl : ∀ f ∈ l, PackF f) (hll : l.length ≤ 1000) : Ret lb Qai [.list l.isEmpty (l.map flE)] (QhP l) := by
 refine .top rfl ((Evt.diag (QrK lb l l.isEmpty rfl hl hll l [] rfl)).mono fun n h => ?_)
 rw [Qmu]
 refine h.trans ?_
 unfold QhP
 cases hs : Qbq l with
 | none => rfl
 | some t =>
  have := (Qd0 hs).1
  simp only [this]
  rfl
end Go.Proofs
set_option linter.unusedSimpArgs false
set_option linter.unusedVariables false
namespace Go.Proofs
open Go.Am
variable (lb : Nat)
theorem Qrj {a b q : P3} (h : QcM a b = some q) : q = Qao a b := by
 unfold QcM at h
 split at h
 ·simpa using h.symm
 ·cases h
theorem QrN (l q s : List Fl) (an : Bool) (a : Fl) (h0 : q ++ a :: s = l) (hl : ∀ f ∈ l, PackF f) (hll : l.length ≤ 1000) : ∀ (t u : List Fl), u ++ t = s → Evt fun n => ∀ k k0, t.length < k →
  Qc2 lb n k k0 an (l.map flE) (q.length : Int) ((q.length + (u.length + 1) : Nat) : Int) = QiQ q u (QcU a t) (Qep lb n k0 an (l.map flE) ((q.length + 1 : Nat) : Int))
 | [], u, h => by
  refine .all fun n k k0 hk => ?_
  obtain ⟨k, rfl⟩ : ∃ m, k = m + 1 := ⟨k - 1, by simp at hk; omega⟩
  have hu : u = s := by simpa using h
  have hql : q.length ≤ 1000 := by rw [← h0] at hll; simp at hll; omega
  have hw0 : IntKind.wrap .i64 ((q.length : Int) + 1) = ((q.length + 1 : Nat) : Int) := by rw [Qaz (by omega) (by omega)]; omega
  rw [QgX]
  refine stF (decF (by rw [← h0, ← hu]; simp)) ?_
  rw [QnW, hw0]
  rfl
 | b :: t, u, h => by
  have hlen : l.length = q.length + (u.length + 1) + (t.length + 1) := by rw [← h0, ← h]; simp; omega
  have hw0 : IntKind.wrap .i64 ((q.length : Int) + 1) = ((q.length + 1 : Nat) : Int) := by rw [Qaz (by omega) (by omega)]; omega
  have hw1 : IntKind.wrap .i64 (((q.length + (u.length + 1) : Nat) : Int) + 1) = ((q.length + (u.length + 1) + 1 : Nat) : Int) := by rw [Qaz (by omega) (by omega)]; omega
  have ha := Qdv h0
  have hb : (l.map flE)[q.length + (u.length + 1)]? = some (flE b) := by
   rw [← h0, ← h]
   rw [show q ++ a :: (u ++ b :: t) = (q ++ a :: u) ++ b :: t by simp, show q.length + (u.length + 1) = (q ++ a :: u).length by simp]
   simp
  have pa := hl a (by rw [← h0]; simp)
  have pb := hl b (by rw [← h0, ← h]; simp)
  have ih := QrN l q s an a h0 hl hll t (u ++ [b]) (by rw [← h]; simp)
  have e1 : q.length + ((u ++ [b]).length + 1) = q.length + (u.length + 1) + 1 := by simp; omega
  refine Evt.imp2 ((Qpd lb (perQ a) (perQ b) pa.canon pb.canon).and (QeO lb a.ln b.ln a.legs b.legs pa.len pb.len)) ih fun n ⟨h1, h2⟩ hi k k0 hk => ?_
  obtain ⟨k, rfl⟩ : ∃ m, k = m + 1 := ⟨k - 1, by simp at hk; omega⟩
  have hi := hi k k0 (by simp at hk; omega)
  rw [e1, Ql4] at hi
  rw [QgX, hw1, hw0]
  refine stT (decT (by simp; omega)) (stO _ (QaI ha) (stC rfl (stO _ rfl (stO _ rfl (stO _ rfl (stO _ rfl (stO _ rfl (stO _ rfl (stO _ (QaI ha) (stC rfl (stO _ rfl (stO _ rfl (stO _ rfl (stO _ (QaI hb) (stC rfl (stO _ rfl (stO _ rfl (stO _ rfl (stO _ h1 (stO _ rfl (stO _ rfl (stO _ rfl (stO _ rfl (stO _ rfl (stC rfl (stO _ rfl (stO _ rfl (stO _ rfl (stO _ (QaH _) ?_)))))))))))))))))))))))))))))
  unfold QcU QfX
  cases hj : QcM (perQ a) (perQ b) with
  | none => exact stT rfl hi
  | some w =>
   have hw := Qrj hj
   subst hw
   refine stF rfl (stO _ (QaI hb) (stC rfl (stO _ rfl (stO _ (Qa4 _) (stO _ (Qa4 _) ?_)))))
   have eN : QhV a b = ((a.car == b.car) && ((a.num == b.num) && lgsB a.legs b.legs)) := rfl
   cases c1 : a.car == b.car with
   | false => rw [c1] at eN; exact stT rfl (by simpa [eN] using hi)
   | true =>
    refine stF rfl (stO _ (QaI hb) (stC rfl (stO _ rfl (stO _ (QaO ..) (stO _ (QaO ..) ?_)))))
    by_cases c2 : a.num = b.num
    ·refine stF (bneF c2) (stO _ (QaI hb) (stC rfl (stO _ rfl (stO _ h2 (stO _ (QaH _) ?_)))))
     cases c3 : lgsB a.legs b.legs with
     | false => rw [c3] at eN; exact stT rfl (by simpa [eN] using hi)
     | true =>
      have hs : QhV a b = true := by rw [eN, c1, beqT c2, c3]; rfl
      have eL : l.map flE = q.map flE ++ flE a :: (u.map flE ++ flE b :: t.map flE) := by rw [← h0, ← h]; simp
      have ql : (q.map flE).length = q.length := List.length_map _
      have ul : (u.map flE).length = u.length := List.length_map _
      have tl : (t.map flE).length = t.length := List.length_map _
      have hN : (l.map flE).length = q.length + (u.length + 1) + (t.length + 1) := by rw [List.length_map, hlen]
      have hQ : (((l.map flE).take ((q.length : Nat) : Int).toNat).drop 0) = q.map flE := by
       rw [Int.toNat_natCast, List.drop_zero, eL, ← ql, List.take_left]
      have hU : (((l.map flE).take ((q.length + (u.length + 1) : Nat) : Int).toNat).drop ((q.length + 1 : Nat) : Int).toNat) = u.map flE := by
       rw [Int.toNat_natCast, Int.toNat_natCast, eL, show q.map flE ++ flE a :: (u.map flE ++ flE b :: t.map flE) = (q.map flE ++ [flE a]) ++ u.map flE ++ flE b :: t.map flE by simp,
        show q.length + (u.length + 1) = ((q.map flE ++ [flE a]) ++ u.map flE).length by simp only [List.length_append, List.length_map, List.length_cons, List.length_nil]; omega, List.take_left, show q.length + 1 = (q.map flE ++ [flE a]).length by simp, List.drop_left]
      have hT : (((l.map flE).take (((l.map flE).length : Int).toNat)).drop ((q.length + (u.length + 1) + 1 : Nat) : Int).toNat) = t.map flE := by
       rw [Int.toNat_natCast, Int.toNat_natCast, List.take_length, eL, show q.map flE ++ flE a :: (u.map flE ++ flE b :: t.map flE) = (q.map flE ++ flE a :: (u.map flE ++ [flE b])) ++ t.map flE by simp,
        show q.length + (u.length + 1) + 1 = (q.map flE ++ flE a :: (u.map flE ++ [flE b])).length by simp only [List.length_append, List.length_map, List.length_cons, List.length_nil]; omega, List.drop_left]
      rw [hQ, hU, hT]
      refine stF rfl (stC (by simp [flE]) (stC (decT (by rw [hN]; omega)) (stC (by simp [flE]) (stC (Qb9 (by rw [ql]; omega) (by omega)) (stC (Qb9 (by rw [ql]; omega) (by omega)) (stC (by simp [flE]) (stC (decT (by rw [hN]; omega)) (stC (decT (by omega)) (stC (by simp [flE]) (stC (Qb9 (by simp; omega) (by omega)) (stC (by simp [flE]) (stC (decT (by rw [hN]; omega)) (stC (by simp [flE]) (stC (Qb9 (by simp; omega) (by omega)) ?_))))))))))))))
      rw [hs]
      show _ = some (CV.tup [.list false ((q ++ Qbe a (Qao (perQ a) (perQ b)) :: (u ++ t)).map flE), .bool true])
      have e7 : (q ++ Qbe a (Qao (perQ a) (perQ b)) :: (u ++ t)).map flE = ((q.map flE ++ [flE (Qbe a (Qao (perQ a) (perQ b)))]) ++ u.map flE) ++ t.map flE := by simp
      rw [e7, Bool.and_false, Bool.false_and, Bool.false_and]
      rfl
    ·refine stT (bneT c2) ?_
     rw [beqF c2, Bool.false_and, Bool.and_false] at eN
     simpa [eN] using hi
theorem Qr1 (l : List Fl) (an : Bool) (hl : ∀ f ∈ l, PackF f) (hll : l.length ≤ 1000) : ∀ (t q : List Fl), q ++ t = l → Evt fun n => ∀ k, t.length < k →
  Qep lb n k an (l.map flE) (q.length : Int) = some (match Qbq t with
   | some t' => .tup [.list false ((q ++ t').map flE), .bool true]
   | none => .tup [.list an (l.map flE), .bool false])
 | [], q, h => by
  refine .all fun n k hk => ?_
  obtain ⟨k, rfl⟩ : ∃ m, k = m + 1 := ⟨k - 1, by simp at hk; omega⟩
  have hu : q = l := by simpa using h
  rw [Qg0, hu]
  refine stF (decF (by simp)) ?_
  rw [QnX]
  rfl
 | a :: t, q, h => by
  have hlen : l.length = q.length + (t.length + 1) := by rw [← h]; simp
  have hw1 : IntKind.wrap .i64 ((q.length : Int) + 1) = ((q.length + (([] : List Fl).length + 1) : Nat) : Int) := by rw [Qaz (by omega) (by omega)]; simp
  have e2 : q.length + 1 = (q ++ [a]).length := by simp
  refine Evt.imp2 (Evt.and (QrN lb l q t an a h hl hll t [] rfl) (Evt.ge 1100)) (Qr1 l an hl hll t (q ++ [a]) (by rw [← h]; simp)) fun n ⟨h1, hn⟩ hi k hk => ?_
  obtain ⟨k, rfl⟩ : ∃ m, k = m + 1 := ⟨k - 1, by simp at hk; omega⟩
  have hi := hi k (by simp at hk; omega)
  have h1 := h1 n k (by omega)
  rw [e2] at h1
  rw [Qg0, hw1]
  refine stT (decT (by simp; omega)) (h1.trans ?_)
  unfold Qbq
  cases hi2 : QcU a t with
  | some x => rfl
  | none =>
   refine hi.trans ?_
   cases Qbq t with
   | none => rfl
   | some t' => simp
theorem Qkr (l : List Fl) (hl : ∀ f ∈ l, PackF f) (hll : l.length ≤ 1000) : Ret lb Qaq [.list l.isEmpty (l.map flE)] (QhP l) := by
 refine .top rfl ((Evt.diag (Qr1 lb l l.isEmpty hl hll l [] rfl)).mono fun n h => ?_)
 rw [QrB]
 refine h.trans ?_
 unfold QhP
 cases hs : Qbq l with
 | none => rfl
 | some t =>
  have := (Qd0 hs).1
  simp only [this]
  rfl
theorem QlS {a : Fl} : ∀ {s : List Fl} {x : Fl × List Fl}, QcU a s = some x → ∃ U b T, s = U ++ b :: T ∧ QfX a b = some x.1 ∧ x.2 = U ++ T
 | b :: s, x, h => by
  unfold QcU at h
  cases hp : QfX a b with
  | some g => rw [hp] at h; simp only [Option.some.injEq] at h; subst h; exact ⟨[], b, s, rfl, hp, rfl⟩
  | none =>
   rw [hp] at h
   simp only [Option.map_eq_some_iff] at h
   obtain ⟨y, hy, rfl⟩ := h
   obtain ⟨U, c, T, rfl, h2, h3⟩ := QlS hy
   exact ⟨b :: U, c, T, rfl, h2, by simp [h3]⟩
theorem Qfg : ∀ {l t : List Fl}, Qbq l = some t → ∃ Q a U b T g, l = Q ++ a :: (U ++ b :: T) ∧ QfX a b = some g ∧ t = Q ++ g :: (U ++ T)
 | [], t, h => by cases h
 | a :: s, t, h => by
  unfold Qbq at h
  cases hi : QcU a s with
  | some x =>
   rw [hi] at h
   simp only [Option.some.injEq] at h
   obtain ⟨U, b, T, rfl, h2, h3⟩ := QlS hi
   exact ⟨[], a, U, b, T, x.1, rfl, h2, by rw [← h, h3]; rfl⟩
  | none =>
   rw [hi] at h
   simp only [Option.map_eq_some_iff] at h
   obtain ⟨y, hy, rfl⟩ := h
   obtain ⟨Q, c, U, b, T, g, rfl, h2, rfl⟩ := Qfg hy
   exact ⟨a :: Q, c, U, b, T, g, rfl, h2, rfl⟩
theorem Qr2 : ∀ {a b : List Lg}, lgsB a b = true → a = b
 | [], [], _ => rfl
 | [], _ :: _, h => by simp [lgsB] at h
 | _ :: _, [], h => by simp [lgsB] at h
 | x :: a, y :: b, h => by
  simp only [lgsB, Bool.and_eq_true] at h
  obtain ⟨h1, h2⟩ := h
  have := Qr2 h2
  subst this
  cases x; cases y
  simp [lgB] at h1
  simp [h1]
structure Pair (a b g : Fl) : Prop where
 car : g.car = a.car
 num : g.num = a.num
 bcar : b.car = a.car
 bnum : b.num = a.num
 legs : g.legs = a.legs
 blegs : b.legs = a.legs
 canon : Canon (perQ g)
 has : ∀ d, Qea g d = (Qea a d || Qea b d)
theorem Qok {a b g : Fl} (ha : PackF a) (hb : PackF b) (h : QfX a b = some g) : Pair a b g := by
 unfold QfX at h
 cases hj : QcM (perQ a) (perQ b) with
 | none => rw [hj] at h; cases h
 | some q =>
  rw [hj] at h
  simp only at h
  split at h
  ·rename_i hs
   simp only [Option.some.injEq] at h
   subst h
   unfold QhV at hs
   simp only [Bool.and_eq_true, beq_iff_eq] at hs
   obtain ⟨k1, k2⟩ := Qrz ha.canon hb.canon hj
   exact ⟨rfl, rfl, hs.1.symm, hs.2.1.symm, rfl, (Qr2 hs.2.2).symm, k1, k2⟩
  ·cases h
theorem Qge {l t : List Fl} (hl : ∀ f ∈ l, PackF f) (h : Qbq l = some t) : ∀ f ∈ t, PackF f := by
 obtain ⟨Q, a, U, b, T, g, rfl, h2, rfl⟩ := Qfg h
 have pa := hl a (by simp)
 have P := Qok pa (hl b (by simp)) h2
 intro f hf
 simp only [List.mem_append, List.mem_cons] at hf
 rcases hf with hf | rfl | hf | hf
 ·exact hl f (by simp [hf])
 ·exact ⟨P.canon, by rw [P.legs]; exact pa.len⟩
 ·exact hl f (by simp [hf])
 ·exact hl f (by simp [hf])
def Qbn : Nat → List Fl → List Fl
 | 0, l => l
 | k + 1, l => match Qbq l with
  | some t => Qbn k t
  | none => l
theorem Qju {l : List Fl} (h : Qbq l = none) : ∀ m, Qbn m l = l
 | 0 => rfl
 | m + 1 => by unfold Qbn; rw [h]
theorem QuP (an : Bool) (a2 : List (List CV)) : ∀ (m : Nat) (l : List Fl), l.length ≤ m → (∀ f ∈ l, PackF f) → m ≤ 1000 → Evt fun n => ∀ k, m + 1 < k →
  QcJ lb n k an a2 (.list l.isEmpty (l.map flE)) (.bool true) = some (.list (Qbn m l).isEmpty ((Qbn m l).map flE))
 | m, l, hm, hl, hm2 => by
  have st := Qgy lb l hl (by omega)
  unfold QhP at st
  cases hs : Qbq l with
  | none =>
   rw [hs] at st
   rw [Qju hs]
   refine st.mono fun n h k hk => ?_
   obtain ⟨k, rfl⟩ : ∃ m, k = m + 1 + 1 := ⟨k - 2, by omega⟩
   rw [Qcq]
   refine stO _ (QaH _) (stT rfl (stO _ h (stO _ rfl (stO _ rfl (stO _ rfl (stO _ rfl ?_))))))
   rw [Qcq]
   refine stO _ (QaH _) (stF rfl ?_)
   rw [Qfx]
  | some t =>
   rw [hs] at st
   have hn := (Qd0 hs).2
   obtain ⟨m, rfl⟩ : ∃ q, m = q + 1 := ⟨m - 1, by omega⟩
   refine Evt.imp2 st (QuP an a2 m t (by omega) (Qge hl hs) (by omega)) fun n h hi k hk => ?_
   obtain ⟨k, rfl⟩ : ∃ m, k = m + 1 := ⟨k - 1, by omega⟩
   have e : Qbn (m + 1) l = Qbn m t := by show (match Qbq l with | some t => Qbn m t | none => l) = _; rw [hs]
   rw [Qcq, e]
   exact stO _ (QaH _) (stT rfl (stO _ h (stO _ rfl (stO _ rfl (stO _ rfl (stO _ rfl (hi k (by omega))))))))
 termination_by m => m
theorem Qu6 (an : Bool) (a2 : List (List CV)) (wV : Int) : ∀ (m : Nat) (l : List Fl), l.length ≤ m → (∀ f ∈ l, PackF f) → m ≤ 1000 → Evt fun n => ∀ k, m + 1 < k →
  Qex lb n k an a2 wV (.list l.isEmpty (l.map flE)) (.bool true) = some (.list (Qbn m l).isEmpty ((Qbn m l).map flE))
 | m, l, hm, hl, hm2 => by
  have st := Qkr lb l hl (by omega)
  unfold QhP at st
  cases hs : Qbq l with
  | none =>
   rw [hs] at st
   rw [Qju hs]
   refine st.mono fun n h k hk => ?_
   obtain ⟨k, rfl⟩ : ∃ m, k = m + 1 + 1 := ⟨k - 2, by omega⟩
   rw [Qdt]
   refine stO _ (QaH _) (stT rfl (stO _ h (stO _ rfl (stO _ rfl (stO _ rfl (stO _ rfl ?_))))))
   rw [Qdt]
   refine stO _ (QaH _) (stF rfl ?_)
   rw [QiI]
  | some t =>
   rw [hs] at st
   have hn := (Qd0 hs).2
   obtain ⟨m, rfl⟩ : ∃ q, m = q + 1 := ⟨m - 1, by omega⟩
   refine Evt.imp2 st (Qu6 an a2 wV m t (by omega) (Qge hl hs) (by omega)) fun n h hi k hk => ?_
   obtain ⟨k, rfl⟩ : ∃ m, k = m + 1 := ⟨k - 1, by omega⟩
   have e : Qbn (m + 1) l = Qbn m t := by show (match Qbq l with | some t => Qbn m t | none => l) = _; rw [hs]
   rw [Qdt, e]
   exact stO _ (QaH _) (stT rfl (stO _ h (stO _ rfl (stO _ rfl (stO _ rfl (stO _ rfl (hi k (by omega))))))))
 termination_by m => m
def Qf4 (f : Fl) : Option Fl := (ofF (Qan f.fr f.to f.days)).map (Qbe f)
def QaK (l : List Fl) : List Fl := l.filterMap Qf4
def Qdr (l : List Fl) : List Fl := Qbn (QaK l).length (QaK l)
theorem QmD (u : List Fl) (f : Fl) : QaK (u ++ [f]) = QaK u ++ (Qf4 f).toList := by
 unfold QaK
 rw [List.filterMap_append]
 cases h : Qf4 f <;> simp [h]
theorem Qh5 (u : List Fl) : (QaK u).length ≤ u.length := List.length_filterMap_le _ _
theorem Qje {l : List Fl} (hl : ∀ f ∈ l, f.legs.length ≤ 1000) : ∀ z ∈ QaK l, PackF z := fun z hz => by
 obtain ⟨f, hf, h⟩ := List.mem_filterMap.1 hz
 unfold Qf4 at h
 obtain ⟨q, hq, rfl⟩ := Option.map_eq_some_iff.1 h
 exact ⟨Quo hq, hl f hf⟩
theorem QpT (l : List Fl) (hl : ∀ f ∈ l, f.legs.length ≤ 1000) (hll : l.length ≤ 1000) (an : Bool) (st : FuncId) (hst : ∀ (m : List Fl), (∀ f ∈ m, PackF f) → m.length ≤ 1000 → Ret lb st [.list m.isEmpty (m.map flE)] (QhP m))
  (L3 : Nat → Nat → Bool → List (List CV) → Option CV) (L4 : Nat → Nat → CV → CV → Option CV)
  (e3 : ∀ n k b m, L3 n (k + 1) b m = optO (C lb n st [.list b m]) fun ky => optO (CV.asT ky) fun o7 => optO (o7[0]?) fun go => optO (CV.asT ky) fun t76 => optO (t76[1]?) fun vM => L4 n k go vM)
  (e4 : ∀ n k x, L4 n (k + 1) x (.bool false) = some x)
  (h4 : ∀ (m : Nat) (l : List Fl), l.length ≤ m → (∀ f ∈ l, PackF f) → m ≤ 1000 → Evt fun n => ∀ k, m + 1 < k → L4 n k (.list l.isEmpty (l.map flE)) (.bool true) = some (.list (Qbn m l).isEmpty ((Qbn m l).map flE))) :
  Evt fun n => L3 n n (QaK l).isEmpty ((QaK l).map flE) = some (.list (Qdr l).isEmpty ((Qdr l).map flE)) := by
 have hp := Qje hl
 have hn := Qh5 l
 have s1 := hst (QaK l) hp (by omega)
 unfold QhP at s1
 unfold Qdr
 cases hs : Qbq (QaK l) with
 | none =>
  rw [hs] at s1
  rw [Qju hs]
  refine Evt.imp2 s1 (Evt.ge 10) fun n h hn => ?_
  obtain ⟨k, rfl⟩ : ∃ k, n = k + 1 + 1 := ⟨n - 2, by omega⟩
  rw [e3]
  refine stO _ h (stO _ rfl (stO _ rfl (stO _ rfl (stO _ rfl ?_))))
  exact e4 ..
 | some t =>
  rw [hs] at s1
  have hn2 := (Qd0 hs).2
  have e : Qbn (QaK l).length (QaK l) = Qbn t.length t := by
   rw [hn2]
   show (match Qbq (QaK l) with | some t' => Qbn t.length t' | none => QaK l) = _
   rw [hs]
  rw [e]
  refine Evt.imp2 s1 (Evt.and (h4 t.length t (by omega) (Qge hp hs) (by omega)) (Evt.ge 1100)) fun n h ⟨hi, hn⟩ => ?_
  have hi := hi (n - 1) (by omega)
  obtain ⟨k, hk⟩ : ∃ k, n = k + 1 := ⟨n - 1, by omega⟩
  have : L3 n n (QaK l).isEmpty ((QaK l).map flE) = L3 n (k + 1) (QaK l).isEmpty ((QaK l).map flE) := by rw [← hk]
  rw [this, e3]
  rw [show n - 1 = k by omega] at hi
  exact stO _ h (stO _ rfl (stO _ rfl (stO _ rfl (stO _ rfl hi))))
theorem QuW (l : List Fl) (an : Bool) (hll : l.length ≤ 1000) : ∀ (t u : List Fl), u ++ t = l → Evt fun n => ∀ k, t.length < k →
  QcL lb n k an (l.map flE) (QaK u).isEmpty ((QaK u).map flE) (u.length : Int) = QeU lb n an (l.map flE) (QaK l).isEmpty ((QaK l).map flE)
 | [], u, h => by
  refine .all fun n k hk => ?_
  obtain ⟨k, rfl⟩ : ∃ m, k = m + 1 := ⟨k - 1, by simp at hk; omega⟩
  have hu : u = l := by simpa using h
  rw [Qe1, hu]
  exact stF (decF (by simp)) rfl
 | f :: t, u, h => by
  have hlen : l.length = u.length + (t.length + 1) := by rw [← h]; simp
  have hw1 : IntKind.wrap .i64 ((u.length : Int) + 1) = ((u ++ [f]).length : Int) := by rw [Qaz (by omega) (by omega)]; simp
  have hnl := Qh5 u
  refine Evt.imp2 (Qgv lb f.fr f.to f.days) (QuW l an hll t (u ++ [f]) (by rw [← h]; simp)) fun n h1 hi k hk => ?_
  obtain ⟨k, rfl⟩ : ∃ m, k = m + 1 := ⟨k - 1, by simp at hk; omega⟩
  have hi := hi k (by simp at hk; omega)
  rw [QmD] at hi
  rw [Qe1, hw1]
  refine stT (decT (by simp; omega)) (stO _ (QaI (Qdv h)) (stC rfl (stO _ rfl (stO _ rfl (stO _ rfl (stO _ rfl (stO _ rfl (stO _ rfl (stO _ h1 ?_)))))))))
  unfold Qf4 at hi
  cases hq : ofF (Qan f.fr f.to f.days) with
  | none =>
   rw [hq] at hi
   have e : QaK u ++ (Option.map (Qbe f) none).toList = QaK u := by simp
   rw [e] at hi
   exact stO _ rfl (stO _ rfl (stO _ rfl (stO _ rfl (stO _ rfl (stC rfl (stO _ rfl (stO _ rfl (stO _ rfl (stO _ rfl (stF rfl hi))))))))))
  | some q =>
   rw [hq] at hi
   have e : QaK u ++ (Option.map (Qbe f) (some q)).toList = QaK u ++ [Qbe f q] := by simp
   rw [e, List.map_append (l₁ := QaK u), ← QcF (QaK u) (Qbe f q) (QaK u).isEmpty] at hi
   exact stO _ rfl (stO _ rfl (stO _ rfl (stO _ rfl (stO _ rfl (stC rfl (stO _ rfl (stO _ rfl (stO _ rfl (stO _ rfl (stT rfl (stC (Qb9 (by simp; omega) (by omega)) hi)))))))))))
theorem QuT (l : List Fl) (an : Bool) (hll : l.length ≤ 1000) : ∀ (t u : List Fl), u ++ t = l → Evt fun n => ∀ k, t.length < k →
  Qet lb n k an (l.map flE) (QaK u).isEmpty ((QaK u).map flE) (u.length : Int) = Qin lb n an (l.map flE) (QaK l).isEmpty ((QaK l).map flE) (l.length : Int)
 | [], u, h => by
  refine .all fun n k hk => ?_
  obtain ⟨k, rfl⟩ : ∃ m, k = m + 1 := ⟨k - 1, by simp at hk; omega⟩
  have hu : u = l := by simpa using h
  rw [Qhc, hu]
  exact stF (decF (by simp)) rfl
 | f :: t, u, h => by
  have hlen : l.length = u.length + (t.length + 1) := by rw [← h]; simp
  have hw1 : IntKind.wrap .i64 ((u.length : Int) + 1) = ((u ++ [f]).length : Int) := by rw [Qaz (by omega) (by omega)]; simp
  have hnl := Qh5 u
  refine Evt.imp2 (QnR lb f.fr f.to f.days) (QuT l an hll t (u ++ [f]) (by rw [← h]; simp)) fun n h1 hi k hk => ?_
  obtain ⟨k, rfl⟩ : ∃ m, k = m + 1 := ⟨k - 1, by simp at hk; omega⟩
  have hi := hi k (by simp at hk; omega)
  rw [QmD] at hi
  rw [Qhc, hw1]
  refine stT (decT (by simp; omega)) (stO _ (QaI (Qdv h)) (stC rfl (stO _ rfl (stO _ rfl (stO _ rfl (stO _ rfl (stO _ rfl (stO _ rfl (stO _ h1 ?_)))))))))
  unfold Qf4 at hi
  cases hq : ofF (Qan f.fr f.to f.days) with
  | none =>
   rw [hq] at hi
   have e : QaK u ++ (Option.map (Qbe f) none).toList = QaK u := by simp
   rw [e] at hi
   exact stO _ rfl (stO _ rfl (stO _ rfl (stO _ rfl (stO _ rfl (stC rfl (stO _ rfl (stO _ rfl (stO _ rfl (stO _ rfl (stF rfl hi))))))))))
  | some q =>
   rw [hq] at hi
   have e : QaK u ++ (Option.map (Qbe f) (some q)).toList = QaK u ++ [Qbe f q] := by simp
   rw [e, List.map_append (l₁ := QaK u), ← QcF (QaK u) (Qbe f q) (QaK u).isEmpty] at hi
   exact stO _ rfl (stO _ rfl (stO _ rfl (stO _ rfl (stO _ rfl (stC rfl (stO _ rfl (stO _ rfl (stO _ rfl (stO _ rfl (stT rfl (stC (Qb9 (by simp; omega) (by omega)) hi)))))))))))
def QpI (l : List Fl) : CV := .list l.isEmpty (l.map flE)
theorem Qlr (l : List Fl) (an : Bool) (hl : ∀ f ∈ l, f.legs.length ≤ 1000) (hll : l.length ≤ 1000) : Ret lb Qar [.list an (l.map flE)] (QpI (Qdr l)) := by
 have h2 := QpT lb l hl hll an Qai (Qgy lb) (fun n k b m => QeM lb n k an (l.map flE) b m) (fun n k x y => QcJ lb n k an (l.map flE) x y) (fun n k b m => Qiv ..)
  (fun n k x => by rw [Qcq]; exact stO _ (QaH _) (stF rfl (Qfx ..))) (QuP lb an (l.map flE))
 refine .top rfl (Evt.imp2 (Evt.diag (QuW lb l an hll l [] rfl)) h2 fun n h h2 => ?_)
 rw [Qme]
 refine h.trans ?_
 rw [QjW]
 exact h2
theorem QqU (l : List Fl) (an : Bool) (hl : ∀ f ∈ l, f.legs.length ≤ 1000) (hll : l.length ≤ 1000) : Ret lb QaG [.list an (l.map flE)] (QpI (Qdr l)) := by
 have h2 := QpT lb l hl hll an Qaq (Qkr lb) (fun n k b m => Qil lb n k an (l.map flE) b m (l.length : Int)) (fun n k x y => Qex lb n k an (l.map flE) (l.length : Int) x y) (fun n k b m => Qmp ..)
  (fun n k x => by rw [Qdt]; exact stO _ (QaH _) (stF rfl (QiI ..))) (Qu6 lb an (l.map flE) (l.length : Int))
 refine .top rfl (Evt.imp2 (Evt.diag (QuT lb l an hll l [] rfl)) h2 fun n h h2 => ?_)
 rw [Qrg]
 refine h.trans ?_
 rw [Qoe]
 exact h2
end Go.Proofs
set_option linter.unusedSimpArgs false
set_option linter.unusedVariables false
namespace Go.Proofs
open Go.Am
variable (lb : Nat)
theorem Pair.sub {a b g : Fl} (P : Pair a b g) {y : Fl} (h1 : Dis a y) (h2 : Dis b y) : Dis g y := fun e1 e2 d ⟨h3, h4⟩ => by
 rw [P.has, Bool.or_eq_true] at h3
 rcases h3 with h3 | h3
 ·exact h1 (P.car.symm.trans e1) (P.num.symm.trans e2) d ⟨h3, h4⟩
 ·exact h2 (P.bcar.trans (P.car.symm.trans e1)) (P.bnum.trans (P.num.symm.trans e2)) d ⟨h3, h4⟩
theorem Qs5 {p : Pc} {a b g : Fl} (P : Pair a b g) (ha : QaL p a = []) (hb : QaL p b = []) : QaL p g = [] := by
 obtain ⟨c1, c2, c3, c4, c5⟩ := QgL ha
 obtain ⟨_, _, _, _, b5⟩ := QgL hb
 unfold QaL
 rw [P.legs, if_neg (by omega), QoS P.car P.num P.canon.per c3, c4, if_pos (show ([] ++ [] : List Ft) = [] from rfl)]
 refine Qmh fun d hd => ?_
 have h : Qea g d = true := Qcy.1 hd
 rw [P.has, Bool.or_eq_true] at h
 rcases h with h | h
 ·exact c5 d h
 ·have := b5 d h
  rw [P.blegs] at this
  exact this
def Keep (l x : List Fl) : Prop := ∀ (car : Bs) (num d : Int), (∀ f ∈ l, onB car num d f = true → ∃ z ∈ x, onB car num d z = true ∧ z.legs = f.legs) ∧ (∀ z ∈ x, onB car num d z = true → ∃ f ∈ l, onB car num d f = true ∧ z.legs = f.legs)
theorem Keep.rfl' (l : List Fl) : Keep l l := fun car num d => ⟨fun f hf h => ⟨f, hf, h, rfl⟩, fun f hf h => ⟨f, hf, h, rfl⟩⟩
theorem Keep.trans' {l x y : List Fl} (h1 : Keep l x) (h2 : Keep x y) : Keep l y := fun car num d => by
 refine ⟨fun f hf h => ?_, fun z hz h => ?_⟩
 ·obtain ⟨g, hg, k1, k2⟩ := (h1 car num d).1 f hf h
  obtain ⟨w, hw, k3, k4⟩ := (h2 car num d).1 g hg k1
  exact ⟨w, hw, k3, k4.trans k2⟩
 ·obtain ⟨g, hg, k1, k2⟩ := (h2 car num d).2 z hz h
  obtain ⟨w, hw, k3, k4⟩ := (h1 car num d).2 g hg k1
  exact ⟨w, hw, k3, k2.trans k4⟩
theorem Qtn {l t : List Fl} (hl : ∀ f ∈ l, PackF f) (h : Qbq l = some t) : Keep l t := by
 obtain ⟨Q, a, U, b, T, g, rfl, h2, rfl⟩ := Qfg h
 have P := Qok (hl a (by simp)) (hl b (by simp)) h2
 intro car num d
 refine ⟨fun f hf ho => ?_, fun z hz ho => ?_⟩
 ·obtain ⟨o1, o2, o3⟩ := QcB.1 ho
  simp only [List.mem_append, List.mem_cons] at hf
  rcases hf with hf | rfl | hf | rfl | hf
  ·exact ⟨f, by simp [hf], ho, rfl⟩
  ·exact ⟨g, by simp, QcB.2 ⟨P.car.trans o1, P.num.trans o2, by rw [P.has, o3]; rfl⟩, P.legs⟩
  ·exact ⟨f, by simp [hf], ho, rfl⟩
  ·exact ⟨g, by simp, QcB.2 ⟨P.car.trans (P.bcar.symm.trans o1), P.num.trans (P.bnum.symm.trans o2), by rw [P.has, o3]; simp⟩, P.legs.trans P.blegs.symm⟩
  ·exact ⟨f, by simp [hf], ho, rfl⟩
 ·obtain ⟨o1, o2, o3⟩ := QcB.1 ho
  simp only [List.mem_append, List.mem_cons] at hz
  rcases hz with hz | rfl | hz | hz
  ·exact ⟨z, by simp [hz], ho, rfl⟩
  ·rw [P.has, Bool.or_eq_true] at o3
   rcases o3 with o3 | o3
   ·exact ⟨a, by simp, QcB.2 ⟨P.car.symm.trans o1, P.num.symm.trans o2, o3⟩, P.legs⟩
   ·exact ⟨b, by simp, QcB.2 ⟨P.bcar.trans (P.car.symm.trans o1), P.bnum.trans (P.num.symm.trans o2), o3⟩, P.legs.trans P.blegs.symm⟩
  ·exact ⟨z, by simp [hz], ho, rfl⟩
  ·exact ⟨z, by simp [hz], ho, rfl⟩
def OkS (p : Pc) (l : List Fl) : Prop := (∀ f ∈ l, QaL p f = []) ∧ l.Pairwise Dis
theorem Qvs {p : Pc} {l t : List Fl} (hl : ∀ f ∈ l, PackF f) (h : Qbq l = some t) (hs : OkS p l) : OkS p t := by
 obtain ⟨Q, a, U, b, T, g, rfl, h2, rfl⟩ := Qfg h
 have P := Qok (hl a (by simp)) (hl b (by simp)) h2
 obtain ⟨c, dd⟩ := hs
 have ca := c a (by simp)
 have cb := c b (by simp)
 obtain ⟨d1, d2, d3⟩ := List.pairwise_append.1 dd
 obtain ⟨d4, d5⟩ := List.pairwise_cons.1 d2
 obtain ⟨d6, d7, d8⟩ := List.pairwise_append.1 d5
 obtain ⟨d9, d10⟩ := List.pairwise_cons.1 d7
 refine ⟨fun f hf => ?_, List.pairwise_append.2 ⟨d1, List.pairwise_cons.2 ⟨fun y hy => ?_, List.pairwise_append.2 ⟨d6, d10, fun x hx y hy => d8 x hx y (by simp [hy])⟩⟩, fun x hx y hy => ?_⟩⟩
 ·simp only [List.mem_append, List.mem_cons] at hf
  rcases hf with hf | rfl | hf | hf
  ·exact c f (by simp [hf])
  ·exact Qs5 P ca cb
  ·exact c f (by simp [hf])
  ·exact c f (by simp [hf])
 ·rcases List.mem_append.1 hy with hy | hy
  ·exact P.sub (d4 y (by simp [hy])) ((d8 y hy b (by simp)).symm)
  ·exact P.sub (d4 y (by simp [hy])) (d9 y hy)
 ·rcases List.mem_cons.1 hy with rfl | hy
  ·exact (P.sub (d3 x hx a (by simp)).symm (d3 x hx b (by simp)).symm).symm
  ·rcases List.mem_append.1 hy with hy | hy
   ·exact d3 x hx y (by simp [hy])
   ·exact d3 x hx y (by simp [hy])
theorem QqD {p : Pc} : ∀ (m : Nat) {l : List Fl}, (∀ f ∈ l, PackF f) → OkS p l → OkS p (Qbn m l) ∧ Keep l (Qbn m l) ∧ (Qbn m l).length ≤ l.length ∧ ∀ f ∈ Qbn m l, PackF f
 | 0, l, hl, hs => ⟨hs, Keep.rfl' l, Nat.le_refl _, hl⟩
 | m + 1, l, hl, hs => by
  unfold Qbn
  cases h : Qbq l with
  | none => exact ⟨hs, Keep.rfl' l, Nat.le_refl _, hl⟩
  | some t =>
   obtain ⟨k1, k2, k3, k4⟩ := QqD (p := p) m (Qge hl h) (Qvs hl h hs)
   have := (Qd0 h).2
   exact ⟨k1, (Qtn hl h).trans' k2, by simp only; omega, k4⟩
theorem QmT : ∀ (m : Nat) {l : List Fl}, (∀ f ∈ l, PackF f) → ∀ f ∈ Qbn m l, PackF f
 | 0, l, hl => hl
 | m + 1, l, hl => by
  unfold Qbn
  cases h : Qbq l with
  | none => exact hl
  | some t => exact QmT m (Qge hl h)
theorem Qos : ∀ (m : Nat) (l : List Fl), (Qbn m l).length ≤ l.length
 | 0, l => Nat.le_refl _
 | m + 1, l => by
  unfold Qbn
  cases h : Qbq l with
  | none => exact Nat.le_refl _
  | some t =>
   have := Qos m t
   have := (Qd0 h).2
   simp only; omega
theorem QoV : ∀ (m : Nat) {l : List Fl} (C : Fl → Prop), (∀ f q, C f → C (Qbe f q)) → (∀ f ∈ l, C f) → ∀ f ∈ Qbn m l, C f
 | 0, l, C, hC, hl => hl
 | m + 1, l, C, hC, hl => by
  unfold Qbn
  cases h : Qbq l with
  | none => exact hl
  | some t =>
   refine QoV m C hC fun f hf => ?_
   obtain ⟨Q, a, U, b, T, g, rfl, h2, rfl⟩ := Qfg h
   simp only [List.mem_append, List.mem_cons] at hf
   rcases hf with hf | rfl | hf | hf
   ·exact hl f (by simp [hf])
   ·unfold QfX at h2
    cases hj : QcM (perQ a) (perQ b) with
    | none => rw [hj] at h2; cases h2
    | some q =>
     rw [hj] at h2
     simp only at h2
     split at h2
     ·simp only [Option.some.injEq] at h2
      rw [← h2]
      exact hC a q (hl a (by simp))
     ·cases h2
   ·exact hl f (by simp [hf])
   ·exact hl f (by simp [hf])
theorem Qkm {f z : Fl} (h : Qf4 f = some z) : z.car = f.car ∧ z.num = f.num ∧ z.legs = f.legs ∧ perE z.fr z.to z.days = 0 ∧ ∀ d, Qea z d = Qea f d := by
 unfold Qf4 at h
 obtain ⟨q, hq, rfl⟩ := Option.map_eq_some_iff.1 h
 obtain ⟨k1, k2⟩ := QiE hq
 exact ⟨rfl, rfl, rfl, k1, k2⟩
theorem Qr0 {p : Pc} : ∀ {l : List Fl}, OkS p l → OkS p (QaK l) ∧ Keep l (QaK l)
 | [], h => ⟨h, Keep.rfl' []⟩
 | f :: t, h => by
  obtain ⟨c, dd⟩ := h
  obtain ⟨d1, d2⟩ := List.pairwise_cons.1 dd
  obtain ⟨⟨c1, c2⟩, kk⟩ := Qr0 (p := p) ⟨fun g hg => c g (by simp [hg]), d2⟩
  cases hn : Qf4 f with
  | none =>
   have e : QaK (f :: t) = QaK t := by unfold QaK; rw [List.filterMap_cons, hn]
   rw [e]
   refine ⟨⟨c1, c2⟩, fun car num d => ⟨fun g hg ho => ?_, fun z hz ho => ?_⟩⟩
   ·rcases List.mem_cons.1 hg with rfl | hg
    ·exfalso
     obtain ⟨_, _, o3⟩ := QcB.1 ho
     have := Qcy.2 o3
     unfold Qf4 at hn
     obtain ⟨w, hw⟩ := QnU this
     rw [hw] at hn
     cases hn
    ·exact (kk car num d).1 g hg ho
   ·obtain ⟨g, hg, k⟩ := (kk car num d).2 z hz ho
    exact ⟨g, by simp [hg], k⟩
  | some z =>
   have e : QaK (f :: t) = z :: QaK t := by unfold QaK; rw [List.filterMap_cons, hn]
   rw [e]
   obtain ⟨z1, z2, z3, z4, z5⟩ := Qkm hn
   have zs : Sub z f := ⟨z1, z2, fun d hd => by rw [← z5]; exact hd⟩
   refine ⟨⟨fun g hg => ?_, List.pairwise_cons.2 ⟨fun y hy => ?_, c2⟩⟩, fun car num d => ⟨fun g hg ho => ?_, fun y hy ho => ?_⟩⟩
   ·rcases List.mem_cons.1 hg with rfl | hg
    ·exact QtW z3 z4 zs (c f (by simp))
    ·exact c1 g hg
   ·obtain ⟨g, hg, h⟩ := List.mem_filterMap.1 hy
    obtain ⟨y1, y2, _, _, y5⟩ := Qkm h
    exact (d1 g hg).sub zs ⟨y1, y2, fun d hd => by rw [← y5]; exact hd⟩
   ·rcases List.mem_cons.1 hg with rfl | hg
    ·obtain ⟨o1, o2, o3⟩ := QcB.1 ho
     exact ⟨z, by simp, QcB.2 ⟨z1.trans o1, z2.trans o2, by rw [z5]; exact o3⟩, z3⟩
    ·obtain ⟨y, hy, k⟩ := (kk car num d).1 g hg ho
     exact ⟨y, by simp [hy], k⟩
   ·rcases List.mem_cons.1 hy with rfl | hy
    ·obtain ⟨o1, o2, o3⟩ := QcB.1 ho
     exact ⟨f, by simp, QcB.2 ⟨z1.symm.trans o1, z2.symm.trans o2, by rw [← z5]; exact o3⟩, z3⟩
    ·obtain ⟨g, hg, k⟩ := (kk car num d).2 y hy ho
     exact ⟨g, by simp [hg], k⟩
theorem QsR {l x : List Fl} (hl : l.Pairwise Dis) (hx : x.Pairwise Dis) (hk : Keep l x) (car : Bs) (num day : Int) : QkN l x car num day = true := by
 unfold QkN
 cases hf : QbJ car num day l with
 | some g =>
  obtain ⟨hg, ho⟩ := QkB hf
  obtain ⟨z, hz, hzo, hzl⟩ := (hk car num day).1 g hg ho
  rw [Qqy hzo hx hz]
  show ((true == true) && lgsB g.legs z.legs) = true
  rw [hzl, QkG]; rfl
 | none =>
  have h0 := Qkl.1 hf
  have : QbJ car num day x = none := Qkl.2 fun z hz => by
   cases hzo : onB car num day z with
   | false => rfl
   | true =>
    obtain ⟨f, hf, ho, _⟩ := (hk car num day).2 z hz hzo
    rw [h0 f hf] at ho; cases ho
  rw [this]; rfl
theorem QuZ (p : Pc) (bn : Bool) (l x : List Fl) (day : Int) (hl : ∀ f ∈ l, f.legs.length ≤ 1000) (hx : ∀ f ∈ x, f.legs.length ≤ 1000) (hll : l.length ≤ 1000) (hxl : x.length ≤ 1000000) (ha : ∀ car num, QkN l x car num day = true) : ∀ (t u : List Fl), u ++ t = l → Evt fun n => ∀ k, t.length < k →
  Qcu lb n k p.an (p.aps.map apcv) p.dn (p.dis.map dicv) bn (l.map flE) day (QpI x) (u.length : Int) = Qdq lb n p.an (p.aps.map apcv) p.dn (p.dis.map dicv) bn (l.map flE) day (QpI x) (l.length : Int)
 | [], u, h => by
  refine .all fun n k hk => ?_
  obtain ⟨k, rfl⟩ : ∃ m, k = m + 1 := ⟨k - 1, by simp at hk; omega⟩
  have hu : u = l := by simpa using h
  rw [QdK, hu]
  exact stF (decF (by simp)) rfl
 | f :: t, u, h => by
  have hlen : l.length = u.length + (t.length + 1) := by rw [← h]; simp
  have hw1 : IntKind.wrap .i64 ((u.length : Int) + 1) = ((u ++ [f]).length : Int) := by rw [Qaz (by omega) (by omega)]; simp
  refine Evt.imp2 (Qpf lb bn x.isEmpty l x hl hx (by omega) hxl f.car f.num day) (QuZ p bn l x day hl hx hll hxl ha t (u ++ [f]) (by rw [← h]; simp)) fun n h1 hi k hk => ?_
  obtain ⟨k, rfl⟩ : ∃ m, k = m + 1 := ⟨k - 1, by simp at hk; omega⟩
  have hi := hi k (by simp at hk; omega)
  rw [ha] at h1
  rw [QdK, hw1]
  exact stT (decT (by simp; omega)) (stO _ (QaI (Qdv h)) (stC rfl (stO _ rfl (stO _ (QaI (Qdv h)) (stC rfl (stO _ rfl (stO _ h1 (stO _ rfl (stF rfl hi)))))))))
theorem Qmy (p : Pc) (hp : ArgP p) (bn : Bool) (l : List Fl) (hl : ArgL l) (hq : ∀ f ∈ l, ∀ x ∈ f.legs, x.eq.length ≤ 281474976710656) (day : Int) : Ret lb QaP [pcv p, .list bn (l.map flE), .int .i64 day] (.bool true) := by
 have aw := QsX lb
 have bg := Qf3 lb p hp bn l hl
 cases hB : Qhs p l with
 | true =>
  refine .top rfl (Evt.imp2 bg aw fun n h1 h2 => ?_)
  rw [Qdp]
  exact stO _ h1 (stO _ rfl (stT hB (stO _ h2 rfl)))
 | false =>
  obtain ⟨b1, b2, b3, b4⟩ := Qhy hB
  have hlegs : ∀ f ∈ l, f.legs.length ≤ 1000 := fun f hf => by
   obtain ⟨_, _, c3, _⟩ := Qjh (b4 f hf)
   omega
  have p1 := Qlr lb l bn hlegs (by omega)
  have p2 := QqU lb l bn hlegs (by omega)
  have hpk : ∀ f ∈ Qdr l, PackF f := QmT _ (Qje hlegs)
  have hln : (Qdr l).length ≤ l.length := Nat.le_trans (Qos _ _) (Qh5 l)
  have sa := Qp5 lb (Qdr l).isEmpty (Qdr l).isEmpty (Qdr l) (fun z hz => (hpk z hz).len) (by omega)
  have rt := Qps lb p hp bn l hl
  cases hR : QiO p l with
  | false =>
   refine .top rfl (Evt.imp2 (bg.and (Evt.and p1 p2)) (Evt.and sa (rt.and aw)) fun n ⟨h1, h2, h3⟩ ⟨h4, h5, h6⟩ => ?_)
   rw [Qdp]
   exact stO _ h1 (stO _ rfl (stF hB (stO _ h2 (stO _ h3 (stO _ h4 (stO _ rfl (stF rfl (stO _ h5 (stO _ rfl (stT (by rw [hR]; rfl) (stO _ h6 rfl)))))))))))
  | true =>
   obtain ⟨r1, r2, r3, r4⟩ := QuH hl hR
   have r5 : Qdu p [] l = [] := by
    unfold QiO at hR
    simp only [Bool.and_eq_true, List.isEmpty_iff] at hR
    exact hR.2.2
   have hs := QjN.1 r5
   obtain ⟨n1, n2⟩ := Qr0 (p := p) hs
   obtain ⟨k1, k2, k3, k4⟩ := QqD (p := p) (QaK l).length (Qje hlegs) n1
   have hx := n2.trans' k2
   have good : ∀ f ∈ Qdr l, QpM f := QoV _ QpM (fun f q h => h) fun z hz => by
    obtain ⟨f, hf, h⟩ := List.mem_filterMap.1 hz
    obtain ⟨z1, _, z3, _⟩ := Qkm h
    exact ⟨by rw [z1]; exact (hl.2 f hf).1.1, by rw [z3]; exact hq f hf⟩
   have h8 := QjF lb p r1 (Qdr l).isEmpty (Qdr l) good (by omega)
   rw [show Qdu p [] (Qdr l) = [] from QjN.2 k1] at h8
   have lp := (QuZ lb p bn l (Qdr l) day hlegs (fun z hz => (hpk z hz).len) (by omega) (by omega) (fun car num => QsR hs.2 k1.2 hx car num day) l [] rfl).diag
   refine .top rfl (Evt.imp2 ((bg.and (Evt.and p1 p2)).and (Evt.and h8 lp)) (Evt.and sa (rt.and aw)) fun n ⟨⟨h1, h2, h3⟩, h7, h9⟩ ⟨h4, h5, h6⟩ => ?_)
   rw [Qdp]
   refine stO _ h1 (stO _ rfl (stF hB (stO _ h2 (stO _ h3 (stO _ h4 (stO _ rfl (stF rfl (stO _ h5 (stO _ rfl (stF (by rw [hR]; rfl) (h9.trans ?_)))))))))))
   rw [QhE]
   exact stO _ rfl (stT (decT (by simp; omega)) (stO _ h7 (stO _ rfl (stT rfl (stO _ h6 rfl)))))
end Go.Proofs
