/- Chapter 10 on plain data: the canonical period of a list of days, by the program and by its reference. Conditions: as each says. -/
import Derived.Test.YtdcpdknginpohaaGreatDoorKB
import Derived.Test.YtdcpdknginpohaaGreatDoorGt
import Derived.Test.YtdcpdknginpohaaGreatDoorVa
import Derived.Test.YtdcpdknginpohaaGreatDoorVb
import Derived.Test.YtdcpdknginpohaaGreatDoorVc
set_option linter.unusedSimpArgs false
set_option linter.unusedVariables false
namespace Go.Proofs
open Go.Am
variable (lb : Nat)
def orB (acc : Int) (w : Nat) : Int := if acc / 2 ^ w % 2 == 0 then acc + 2 ^ w else acc
def Qbi : Int → List Int → Int
 | acc, [] => acc
 | acc, d :: l => Qbi (orB acc (QaF d).toNat) l
abbrev P3 := Int × Int × Int
def pcv3 (x : P3) : List CV := [.int .i64 x.1, .int .i64 x.2.1, .int .i64 x.2.2]
def ofF (l : List Int) : Option P3 :=
 match l with
 | [] => none
 | a :: r => some (a, (a :: r).getLast?.getD 0, Qbi 0 (a :: r))
def optP (o : Option P3) : CV := match o with
 | some x => .tup [.agg (pcv3 x), .bool true]
 | none => .tup [.agg [.int .i64 0, .int .i64 0, .int .i64 0], .bool false]
theorem Qvv : ∀ (d : Fin 128) (w : Fin 7), IntKind.wrap .i64 ((BitVec.ofInt 64 ((d.val : Nat) : Int) ||| BitVec.ofInt 64 (IntKind.wrap .i64 (1 * 2 ^ (min ((w.val : Nat) : Int).toNat 64)))).toNat) = orB ((d.val : Nat) : Int) w.val := by decide +kernel
theorem Quw : ∀ (d : Fin 128) (w : Fin 7), 0 ≤ orB ((d.val : Nat) : Int) w.val ∧ orB ((d.val : Nat) : Int) w.val < 128 := by decide +kernel
theorem QvR : ∀ (d : Fin 128) (w : Fin 7), (Int.tmod (IntKind.wrap .i64 (Int.tdiv ((d.val : Nat) : Int) (2 ^ w.val))) 2 == 0) = (((d.val : Nat) : Int) / 2 ^ w.val % 2 == 0) := by decide +kernel
theorem QtC {acc day : Int} (h0 : 0 ≤ acc ∧ acc < 128) (h : 0 ≤ day) : IntKind.wrap .i64 ((BitVec.ofInt 64 acc ||| BitVec.ofInt 64 (IntKind.wrap .i64 (1 * 2 ^ (min (QaF day).toNat 64)))).toNat) = orB acc (QaF day).toNat := by
 obtain ⟨h1, h2⟩ := Qb0 h
 obtain ⟨d, rfl⟩ := Int.eq_ofNat_of_zero_le h0.1
 obtain ⟨w, hw⟩ := Int.eq_ofNat_of_zero_le h1
 rw [hw]
 exact Qvv ⟨d, by omega⟩ ⟨w, by omega⟩
theorem Qoz {acc day : Int} (h0 : 0 ≤ acc ∧ acc < 128) (h : 0 ≤ day) : 0 ≤ orB acc (QaF day).toNat ∧ orB acc (QaF day).toNat < 128 := by
 obtain ⟨h1, h2⟩ := Qb0 h
 obtain ⟨d, rfl⟩ := Int.eq_ofNat_of_zero_le h0.1
 obtain ⟨w, hw⟩ := Int.eq_ofNat_of_zero_le h1
 rw [hw]
 exact Quw ⟨d, by omega⟩ ⟨w, by omega⟩
theorem Qvw {acc day : Int} (h0 : 0 ≤ acc ∧ acc < 128) (h : 0 ≤ day) : (Int.tmod (IntKind.wrap .i64 (Int.tdiv acc (2 ^ (QaF day).toNat))) 2 == 0) = (acc / 2 ^ (QaF day).toNat % 2 == 0) := by
 obtain ⟨h1, h2⟩ := Qb0 h
 obtain ⟨d, rfl⟩ := Int.eq_ofNat_of_zero_le h0.1
 obtain ⟨w, hw⟩ := Int.eq_ofNat_of_zero_le h1
 rw [hw]
 exact QvR ⟨d, by omega⟩ ⟨w, by omega⟩
theorem Qt2 {day : Int} (h : 0 ≤ day) : (1 : Int) ≤ 2 ^ (QaF day).toNat ∧ (2 : Int) ^ (QaF day).toNat ≤ 64 := by
 obtain ⟨h1, h2⟩ := Qb0 h
 have : ∀ q : Fin 7, (1 : Int) ≤ 2 ^ q.val ∧ (2 : Int) ^ q.val ≤ 64 := by decide
 exact this ⟨(QaF day).toNat, by omega⟩
theorem QkR : ∀ (a : List Int) (acc : Int) (b : List Int), Qbi acc (a ++ b) = Qbi (Qbi acc a) b
 | [], _, _ => rfl
 | d :: a, acc, b => by simp only [List.cons_append, Qbi]; exact QkR a _ b
theorem Qev : ∀ (l : List Int) (acc : Int), (∀ d ∈ l, 0 ≤ d) → 0 ≤ acc ∧ acc < 128 → 0 ≤ Qbi acc l ∧ Qbi acc l < 128
 | [], acc, _, h => h
 | d :: l, acc, hd, h => by
  simp only [Qbi]
  exact Qev l _ (fun x hx => hd x (by simp [hx])) (Qoz h (hd d (by simp)))
def QpF (l : List Int) : Int := l.head?.getD 0
def Qk4 (l : List Int) : Int := l.getLast?.getD 0
theorem Qm4 (l : List Int) (x : Int) : Qk4 (l ++ [x]) = x := by simp [Qk4]
theorem QsC (l : List Int) (x : Int) (h : l.isEmpty = false) : QpF (l ++ [x]) = QpF l := by
 cases l with
 | nil => cases h
 | cons a l => rfl
theorem QoL (l : List Int) : optP (ofF l) = .tup [.agg [.int .i64 (QpF l), .int .i64 (Qk4 l), .int .i64 (Qbi 0 l)], .bool (!l.isEmpty)] := by
 cases l with
 | nil => rfl
 | cons a r => rfl
theorem QfL {l p t : List Int} {x : Int} (h : p ++ x :: t = l) : (dcv l)[p.length]? = some [.int .i64 x] := by rw [← h]; simp [dcv]
theorem Qls (fr to days : Int) (l : List Int) (hd : ∀ d ∈ l, 0 ≤ d) : ∀ (t p : List Int), p ++ t = l →
  Evt fun n => ∀ k, t.length < k → period_Normal_L1 lb n k fr to days (dcv l) p.length (.int .i64 (QpF p)) (.int .i64 (Qk4 p)) (Qbi 0 p) (!p.isEmpty) = some (optP (ofF l))
 | [], p, h => by
  have : p = l := by simpa using h
  subst this
  refine .all fun n k hk => ?_
  obtain ⟨k, rfl⟩ : ∃ m, k = m + 1 := ⟨k - 1, by simp at hk; omega⟩
  rw [Qe5]
  refine stF (decF (by simp [dcv])) ?_
  rw [Qj2, QoL]
 | x :: t, p, h => by
  have hx : 0 ≤ x := hd x (by rw [← h]; simp)
  have hp : ∀ d ∈ p, 0 ≤ d := fun d hm => hd d (by rw [← h]; simp [hm])
  obtain ⟨w1, w2⟩ := Qb0 hx
  refine Evt.imp2 (Qfa lb x) (Qls fr to days l hd t (p ++ [x]) (by rw [← h]; simp)) fun n hw hi k hk => ?_
  obtain ⟨k, rfl⟩ : ∃ m, k = m + 1 := ⟨k - 1, by simp at hk; omega⟩
  have hi := hi k (by simp at hk; omega)
  rw [Qm4, QkR, List.length_append, List.length_singleton] at hi
  simp only [Qbi] at hi
  have hne : (!(p ++ [x]).isEmpty) = true := by simp
  rw [hne] at hi
  rw [Qe5]
  refine stT (decT (by rw [← h]; simp [dcv])) (stO _ (QfL h) (stO (.int .i64 x) rfl ?_))
  cases hpe : p.isEmpty with
  | true =>
   have : p = [] := by simpa using hpe
   subst this
   refine stT rfl (stC rfl (stC rfl (stO _ hw (stO _ (QaO ..) (stC (decT w1) ?_)))))
   rw [QtC (Qev [] 0 (by simp) (by decide)) hx]
   exact hi
  | false =>
   refine stF rfl (stC rfl (stO _ hw (stO _ (QaO ..) (stC (decT w1) ?_))))
   rw [QtC (Qev p 0 hp (by decide)) hx]
   rw [QsC p x hpe] at hi
   exact hi
theorem Qg9 (fr to days : Int) : ∀ d ∈ Qan fr to days, 0 ≤ d := fun d hd => (Qe0 hd).1
theorem Qgv (fr to days : Int) : Ret lb QaR [.agg [.int .i64 fr, .int .i64 to, .int .i64 days]] (optP (ofF (Qan fr to days))) := by
 refine .top rfl (.eq (fun n => by rw [Qmi]) ?_)
 have := Evt.diag (Qls lb fr to days (Qan fr to days) (Qg9 fr to days) (Qan fr to days) [] rfl)
 refine this.mono fun n hn => ?_
 exact stO (dcv (Qan fr to days)) rfl (stC (by simp [dcv]) hn)
theorem QrV (an : Bool) (l : List Int) (hl : l.length ≤ 100000) (hd : ∀ d ∈ l, 0 ≤ d) (c3 c5 : List CV) (x4 x6 : Int) : ∀ (t p : List Int), p ++ t = l →
  Evt fun n => ∀ k, t.length < k → Qgc lb n k an (dcv l) c3 (.int .i64 x4) c5 (.int .i64 x6) (p.length : Int) (Qbi 0 p) = some (.tup [.agg [.int .i64 x4, .int .i64 x6, .int .i64 (Qbi 0 l)], .bool true])
 | [], p, h => by
  have : p = l := by simpa using h
  subst this
  refine .all fun n k hk => ?_
  obtain ⟨k, rfl⟩ : ∃ m, k = m + 1 := ⟨k - 1, by simp at hk; omega⟩
  rw [QiP]
  refine stF (decF (by simp [dcv])) ?_
  rw [QpR]
 | x :: t, p, h => by
  have hx : 0 ≤ x := hd x (by rw [← h]; simp)
  have hp : ∀ d ∈ p, 0 ≤ d := fun d hm => hd d (by rw [← h]; simp [hm])
  have hlen : l.length = p.length + (t.length + 1) := by rw [← h]; simp
  obtain ⟨p1, p2⟩ := Qt2 hx
  have hr := Qev p 0 hp (by decide)
  have hw1 : IntKind.wrap .i64 ((p.length : Int) + 1) = ((p ++ [x]).length : Int) := by rw [Qaz (by omega) (by omega)]; simp
  refine Evt.imp2 (Ql2 lb x hx) (QrV an l hl hd c3 c5 x4 x6 t (p ++ [x]) (by rw [← h]; simp)) fun n hw hi k hk => ?_
  obtain ⟨k, rfl⟩ : ∃ m, k = m + 1 := ⟨k - 1, by simp at hk; omega⟩
  have hi := hi k (by simp at hk; omega)
  rw [QkR] at hi
  simp only [Qbi] at hi
  rw [QiP]
  refine stT (decT (by simp [dcv]; omega)) (stO _ (QaI (QfL h)) (stC rfl (stO _ rfl (stO _ hw (stO _ (QaO ..) (stC (bneT (by omega)) ?_))))))
  rw [Qvw hr hx]
  cases hb : (Qbi 0 p / 2 ^ (QaF x).toNat % 2 == 0) with
  | true =>
   have hor : orB (Qbi 0 p) (QaF x).toNat = Qbi 0 p + 2 ^ (QaF x).toNat := by simp [orB, hb]
   refine stT rfl (stO _ (QaI (QfL h)) (stC rfl (stO _ rfl (stO _ hw (stO _ (QaO ..) ?_)))))
   rw [hw1, Qaz (x := Qbi 0 p + _) (by omega) (by omega), ← hor]
   exact hi
  | false =>
   have hor : orB (Qbi 0 p) (QaF x).toNat = Qbi 0 p := by simp [orB, hb]
   refine stF rfl ?_
   rw [hw1]
   rw [hor] at hi
   exact hi
theorem Qng (an : Bool) (l : List Int) (hl : l.length ≤ 100000) (hd : ∀ d ∈ l, 0 ≤ d) : Ret lb Qcf [.list an (dcv l)] (optP (ofF l)) := by
 refine .top rfl (.eq (fun n => by rw [Qtk]) ?_)
 cases l with
 | nil => exact .of rfl
 | cons a r =>
  have hs : (a :: r).getLast?.getD 0 = Qk4 (a :: r) := rfl
  obtain ⟨q, z, hq⟩ : ∃ q z, a :: r = q ++ [z] := by
   rcases QgG (a :: r) with h | ⟨q, z, h⟩
   ·cases h
   ·exact ⟨q, z, h⟩
  have hz : Qk4 (a :: r) = z := by rw [hq, Qm4]
  have hql : (a :: r).length = q.length + 1 := by rw [hq]; simp
  have := Evt.diag (QrV lb an (a :: r) hl hd [.int .i64 a] [.int .i64 z] a z (a :: r) [] rfl)
  refine this.mono fun n hn => ?_
  refine stF (beqF (by simp [dcv]; omega)) (stO _ (QaI (i := 0) rfl) (stC rfl (stO _ rfl (stO [.int .i64 z] ?_ (stC rfl (stO _ rfl (stC rfl (stC rfl ?_))))))))
  ·have e : IntKind.wrap .i64 (((dcv (a :: r)).length : Int) - 1) = (q.length : Int) := by
    have : (dcv (a :: r)).length = q.length + 1 := by simp only [dcv, List.length_map]; exact hql
    rw [this, Qaz (by omega) (by omega)]; omega
   rw [e]
   exact QaI (QfL (t := []) hq.symm)
  ·rw [QoL, hz]
   exact hn
end Go.Proofs
set_option linter.unusedSimpArgs false
set_option linter.unusedVariables false
namespace Go.Proofs
open Go.Am
variable (lb : Nat)
abbrev Asc (l : List Int) : Prop := l.Pairwise (· < ·)
theorem Asc.ext : ∀ {a b : List Int}, Asc a → Asc b → (∀ x, x ∈ a ↔ x ∈ b) → a = b
 | [], [], _, _, _ => rfl
 | [], y :: b, _, _, h => by have := (h y).2 (by simp); cases this
 | x :: a, [], _, _, h => by have := (h x).1 (by simp); cases this
 | x :: a, y :: b, ha, hb, h => by
  have h1 := List.pairwise_cons.1 ha
  have h2 := List.pairwise_cons.1 hb
  have hxy : x = y := by
   have e1 := (h x).1 (by simp)
   have e2 := (h y).2 (by simp)
   simp only [List.mem_cons] at e1 e2
   rcases e1 with e1 | e1
   ·exact e1
   ·rcases e2 with e2 | e2
    ·exact e2.symm
    ·have := h1.1 y e2
     have := h2.1 x e1
     omega
  subst hxy
  congr 1
  refine Asc.ext h1.2 h2.2 fun z => ⟨fun hz => ?_, fun hz => ?_⟩
  ·have := (h z).1 (by simp [hz])
   simp only [List.mem_cons] at this
   rcases this with rfl | this
   ·have := h1.1 z hz; omega
   ·exact this
  ·have := (h z).2 (by simp [hz])
   simp only [List.mem_cons] at this
   rcases this with rfl | this
   ·have := h2.1 z hz; omega
   ·exact this
theorem Asc.filter {l : List Int} (h : Asc l) (p : Int → Bool) : Asc (l.filter p) := h.sublist List.filter_sublist
theorem QqO (fr days : Int) : ∀ k, Asc (upto fr days k)
 | 0 => List.Pairwise.nil
 | k + 1 => by
  simp only [upto]
  refine List.pairwise_append.2 ⟨QqO fr days k, by split <;> simp, fun a ha b hb => ?_⟩
  have h1 := Qmv ha
  split at hb
  ·simp at hb; omega
  ·cases hb
theorem QbV (fr to days : Int) : Asc (Qan fr to days) := by
 unfold Qan
 split
 ·exact QqO _ _ _
 ·exact List.Pairwise.nil
theorem Qp6 {fr days d : Int} : ∀ {k : Nat}, d ∈ upto fr days k ↔ fr ≤ d ∧ d < fr + k ∧ onF days d = true
 | 0 => by simp [upto]; omega
 | k + 1 => by
  simp only [upto, List.mem_append, Qp6 (k := k)]
  by_cases ho : onF days (fr + k) = true
  ·rw [if_pos ho]
   simp only [List.mem_singleton]
   constructor
   ·rintro (⟨h1, h2, h3⟩ | rfl)
    ·exact ⟨h1, by omega, h3⟩
    ·exact ⟨by omega, by omega, ho⟩
   ·rintro ⟨h1, h2, h3⟩
    by_cases e : d = fr + k
    ·exact .inr e
    ·exact .inl ⟨h1, by omega, h3⟩
  ·rw [if_neg ho]
   simp only [List.not_mem_nil, or_false]
   constructor
   ·rintro ⟨h1, h2, h3⟩; exact ⟨h1, by omega, h3⟩
   ·rintro ⟨h1, h2, h3⟩
    have : d ≠ fr + k := fun e => ho (by rw [← e]; exact h3)
    exact ⟨h1, by omega, h3⟩
theorem Qbo (fr to days d : Int) : hasF fr to days d = true ↔ perE fr to days = 0 ∧ fr ≤ d ∧ d ≤ to ∧ onF days d = true := by
 unfold hasF
 simp only [Bool.and_eq_true, decide_eq_true_eq]
theorem Qcy {fr to days d : Int} : d ∈ Qan fr to days ↔ hasF fr to days d = true := by
 rw [Qbo]
 unfold Qan
 by_cases h : perE fr to days = 0
 ·rw [if_pos h, Qp6]
  have := Qey h
  constructor
  ·rintro ⟨h1, h2, h3⟩; exact ⟨h, h1, by omega, h3⟩
  ·rintro ⟨_, h1, h2, h3⟩; exact ⟨h1, by omega, h3⟩
 ·rw [if_neg h]
  simp [h]
def andD (a b : Int) : Int := IntKind.wrap .i64 ((BitVec.ofInt 64 a &&& BitVec.ofInt 64 b).toNat)
theorem Qo3 : ∀ (a b : Nat), a < 128 → b < 128 → a &&& b < 128 := fun a b ha _ => Nat.lt_of_le_of_lt Nat.and_le_left ha
theorem Qq9 {a b : Nat} (ha : a < 128) (hb : b < 128) : andD a b = ((a &&& b : Nat) : Int) := by
 unfold andD
 have e : ∀ n : Nat, BitVec.ofInt 64 (n : Int) = BitVec.ofNat 64 n := fun n => by simp
 rw [e, e]
 have h := Qo3 a b ha hb
 have : (BitVec.ofNat 64 a &&& BitVec.ofNat 64 b).toNat = a &&& b := by
  rw [BitVec.toNat_and, BitVec.toNat_ofNat, BitVec.toNat_ofNat, Nat.mod_eq_of_lt (by omega), Nat.mod_eq_of_lt (by omega)]
 rw [this, Qaz (by omega) (by omega)]
theorem QgW (a : Nat) (d : Int) : onF a d = a.testBit (QaF d).toNat := by
 unfold onF
 rw [Nat.testBit_eq_decide_div_mod_eq]
 have : ((a : Int) / 2 ^ (QaF d).toNat % 2) = ((a / 2 ^ (QaF d).toNat % 2 : Nat) : Int) := by
  rw [Int.natCast_emod, Int.natCast_ediv]
  simp
 rw [this]
 by_cases h : a / 2 ^ (QaF d).toNat % 2 = 1
 ·rw [h]; rfl
 ·rw [decide_eq_false h]
  simp; omega
theorem Qsp {a b : Int} (ha : 0 ≤ a ∧ a < 128) (hb : 0 ≤ b ∧ b < 128) : 0 ≤ andD a b ∧ andD a b < 128 := by
 obtain ⟨a, rfl⟩ := Int.eq_ofNat_of_zero_le ha.1
 obtain ⟨b, rfl⟩ := Int.eq_ofNat_of_zero_le hb.1
 rw [Qq9 (by omega) (by omega)]
 have := Qo3 a b (by omega) (by omega)
 omega
theorem QrZ {a b : Int} (ha : 0 ≤ a ∧ a < 128) (hb : 0 ≤ b ∧ b < 128) (d : Int) : onF (andD a b) d = (onF a d && onF b d) := by
 obtain ⟨a, rfl⟩ := Int.eq_ofNat_of_zero_le ha.1
 obtain ⟨b, rfl⟩ := Int.eq_ofNat_of_zero_le hb.1
 rw [Qq9 (by omega) (by omega), QgW, QgW, QgW, Nat.testBit_and]
theorem Qlf (d : Int) : onF 0 d = false := by unfold onF; simp
def maxP (a b : Int) : Int := if b > a then b else a
def minP (a b : Int) : Int := if b < a then b else a
theorem QsG {fr to days f t D x : Int} (h0 : perE fr to days = 0) (hD : 0 ≤ D ∧ D < 128) :
  x ∈ Qan (maxP fr f) (minP to t) (andD days D) ↔ hasF fr to days x = true ∧ f ≤ x ∧ x ≤ t ∧ onF D x = true := by
 obtain ⟨a0, a1, a2, a3, a4, a5⟩ := Qey h0
 have hr := Qsp (a := days) (b := D) (by omega) hD
 rw [Qcy, Qbo, Qbo, QrZ (by omega) hD, Bool.and_eq_true]
 have hm1 : maxP fr f ≤ x ↔ fr ≤ x ∧ f ≤ x := by unfold maxP; split <;> omega
 have hm2 : x ≤ minP to t ↔ x ≤ to ∧ x ≤ t := by unfold minP; split <;> omega
 rw [hm1, hm2]
 constructor
 ·rintro ⟨_, ⟨h1, h2⟩, ⟨h3, h4⟩, h5, h6⟩
  exact ⟨⟨h0, h1, h3, h5⟩, h2, h4, h6⟩
 ·rintro ⟨⟨_, h1, h3, h5⟩, h2, h4, h6⟩
  refine ⟨?_, ⟨h1, h2⟩, ⟨h3, h4⟩, h5, h6⟩
  have hne : andD days D ≠ 0 := fun e => by
   have := QrZ (a := days) (b := D) (by omega) hD x
   rw [e, Qlf, h5, h6] at this
   cases this
  have q1 : maxP fr f ≤ x := hm1.2 ⟨h1, h2⟩
  have q2 : x ≤ minP to t := hm2.2 ⟨h3, h4⟩
  have q3 : fr ≤ maxP fr f := by unfold maxP; split <;> omega
  have q4 : minP to t ≤ to := by unfold minP; split <;> omega
  unfold perE
  rw [if_neg (by omega), if_neg (by omega), if_neg (by omega)]
def QdM (fr to days fr' to' days' : Int) : List Int := (Qan fr to days).filter fun d => hasF fr' to' days' d
def Qd6 (fr to days fr' to' days' : Int) : Option P3 := ofF (QdM fr to days fr' to' days')
theorem Qoq (fr to days fr' to' days' : Int) (l : List Int) (hl : l.length ≤ 1000) (b0 : Bool) : ∀ (t p : List Int), p ++ t = l →
  Evt fun n => ∀ k, t.length < k → Qeq lb n k fr to days fr' to' days' (.list b0 (dcv l)) (p.filter fun d => hasF fr' to' days' d).isEmpty (dcv (p.filter fun d => hasF fr' to' days' d)) (p.length : Int) =
   Qiq lb n fr to days fr' to' days' (.list b0 (dcv l)) (l.filter fun d => hasF fr' to' days' d).isEmpty (dcv (l.filter fun d => hasF fr' to' days' d)) (l.length : Int)
 | [], p, h => by
  have : p = l := by simpa using h
  subst this
  refine .all fun n k hk => ?_
  obtain ⟨k, rfl⟩ : ∃ m, k = m + 1 := ⟨k - 1, by simp at hk; omega⟩
  rw [Qhj]
  exact stO _ (QaV ..) (stF (decF (by simp [dcv])) rfl)
 | x :: t, p, h => by
  have hlen : l.length = p.length + (t.length + 1) := by rw [← h]; simp
  have hw1 : IntKind.wrap .i64 ((p.length : Int) + 1) = ((p ++ [x]).length : Int) := by rw [Qaz (by omega) (by omega)]; simp
  refine Evt.imp2 (Qio lb fr' to' days' x) (Qoq fr to days fr' to' days' l hl b0 t (p ++ [x]) (by rw [← h]; simp)) fun n hw hi k hk => ?_
  obtain ⟨k, rfl⟩ : ∃ m, k = m + 1 := ⟨k - 1, by simp at hk; omega⟩
  have hi := hi k (by simp at hk; omega)
  rw [Qhj]
  refine stO _ (QaV ..) (stT (decT (by simp [dcv]; omega)) (stO _ (QaV ..) (stO _ (QaI (QfL h)) (stC rfl (stO _ rfl (stO _ hw (stO _ (QaH _) ?_)))))))
  rw [List.filter_append] at hi
  cases hh : hasF fr' to' days' x with
  | true =>
   have e : [x].filter (fun d => hasF fr' to' days' d) = [x] := by simp [hh]
   rw [e] at hi
   refine stT rfl (stO _ (QaV ..) (stO _ (QaI (QfL h)) (stC rfl (stO _ rfl (stC rfl (stC (Qb9 ?_ (by omega)) ?_))))))
   ·have := List.length_filter_le (fun d => hasF fr' to' days' d) p
    simp [dcv]; omega
   ·rw [hw1, QcF (p.filter fun d => hasF fr' to' days' d) x]
    simpa [dcv] using hi
  | false =>
   have e : [x].filter (fun d => hasF fr' to' days' d) = [] := by simp [hh]
   rw [e, List.append_nil] at hi
   exact stF rfl (by rw [hw1]; exact hi)
theorem Qs4 (l : List Int) (p : Int → Bool) (h : l.length ≤ 800) : (l.filter p).length ≤ 100000 := by
 have := List.length_filter_le p l
 omega
theorem Qj7 (fr to days fr' to' days' : Int) : Ret lb Qbt [.agg [.int .i64 fr, .int .i64 to, .int .i64 days], .agg [.int .i64 fr', .int .i64 to', .int .i64 days']] (optP (Qd6 fr to days fr' to' days')) := by
 refine .top rfl (.eq (fun n => by rw [Qre]) ?_)
 have hl := Qdj fr to days
 have h1 := Evt.diag (Qoq lb fr to days fr' to' days' (Qan fr to days) (by omega) (Qan fr to days).isEmpty (Qan fr to days) [] rfl)
 have h2 := Qng lb (QdM fr to days fr' to' days').isEmpty (QdM fr to days fr' to' days') (Qs4 _ _ hl) (fun d hd => Qg9 fr to days d (List.mem_filter.1 hd).1)
 refine (Qfc lb fr to days).and (Evt.and h1 h2) |>.mono fun n ⟨q1, q2, q3⟩ => ?_
 refine stO _ q1 (q2.trans ?_)
 rw [QnQ]
 refine stO _ q3 ?_
 unfold Qd6
 cases ofF (QdM fr to days fr' to' days') with
 | none => rfl
 | some x => rfl
end Go.Proofs
set_option linter.unusedSimpArgs false
set_option linter.unusedVariables false
namespace Go.Proofs
open Go.Am
variable (lb : Nat)
def Qsa (f t fr to days d : Int) : Bool := decide (d ≥ f) && (decide (d ≤ t) && !hasF fr to days d)
def Qwc (fr to days fr' to' days' : Int) : List (List Int) :=
 if perE fr' to' days' = 0 then [(Qan fr to days).filter (Qsa 0 (fr' - 1) fr' to' days'), (Qan fr to days).filter (Qsa fr' to' fr' to' days'), (Qan fr to days).filter (Qsa (to' + 1) 36525 fr' to' days')]
 else [Qan fr to days]
def QuI (fr to days fr' to' days' : Int) : List P3 := (Qwc fr to days fr' to' days').filterMap ofF
end Go.Proofs
set_option linter.unusedSimpArgs false
set_option linter.unusedVariables false
namespace Go.Proofs
open Go.Am
variable (lb : Nat)
structure Rv where
 kind : Int
 car : Bs
 num : Int
 fr : Int
 to : Int
 days : Int
 min : Int
 eq : Bs
 ln : Bool
 legs : List Lg
abbrev rvcv (r : Rv) : CV := .agg [.int .i64 r.kind, .str r.car, .int .i64 r.num, .int .i64 r.fr, .int .i64 r.to, .int .i64 r.days, .int .i64 r.min, .str r.eq, .list r.ln (r.legs.map lgcv)]
def Qu2 (f : Fl) (r : Rv) : Option P3 := Qd6 f.fr f.to f.days r.fr r.to r.days
def QpV (f : Fl) (r : Rv) : Bool := (f.car == r.car) && ((f.num == r.num) && (Qu2 f r).isSome)
def Qb1 (f g : Fl) : Bool := (f.car == g.car) && ((f.num == g.num) && (Qd6 f.fr f.to f.days g.fr g.to g.days).isSome)
theorem Qpq (f g : Fl) : Ret lb Qie [flcv f, flcv g] (.bool (Qb1 f g)) := by
 refine .top rfl ((Qj7 lb f.fr f.to f.days g.fr g.to g.days).mono fun n h => ?_)
 rw [Qqg]
 unfold Qb1
 refine stO _ h ?_
 generalize Qd6 f.fr f.to f.days g.fr g.to g.days = o
 cases o with
 | none => cases f.car == g.car <;> cases f.num == g.num <;> rfl
 | some x => cases f.car == g.car <;> cases f.num == g.num <;> rfl
def Qwr (r : Rv) (x : Lg) : Lg :=
 if r.kind = 3 then { x with dep := IntKind.wrap .i64 (x.dep + r.min), arr := IntKind.wrap .i64 (x.arr + r.min) } else if r.kind = 4 then { x with eq := r.eq } else x
def Qt6 (r : Rv) (f : Fl) (q : P3) : Fl :=
 if r.kind = 5 then { f with fr := q.1, to := q.2.1, days := q.2.2, ln := r.ln, legs := r.legs } else { f with fr := q.1, to := q.2.1, days := q.2.2, ln := f.legs.isEmpty, legs := f.legs.map (Qwr r) }
theorem set1 {α : Type} (Q : List α) (x a : α) : ∀ P : List α, setN (P ++ x :: Q) P.length a = P ++ a :: Q
 | [] => rfl
 | p :: P => by
  show p :: setN (P ++ x :: Q) P.length a = _
  rw [set1 Q x a P]; rfl
end Go.Proofs
