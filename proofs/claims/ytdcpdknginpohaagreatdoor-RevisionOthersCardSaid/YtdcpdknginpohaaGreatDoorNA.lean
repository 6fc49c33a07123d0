/- Chapter 10 on plain data: the canonical period of a list of days, by the program and by its reference. Conditions: as each says. -/
import Derived.Test.YtdcpdknginpohaaGreatDoorKB
import Derived.Test.YtdcpdknginpohaaGreatDoorGt
import Derived.Test.YtdcpdknginpohaaGreatDoorVa
import Derived.Test.YtdcpdknginpohaaGreatDoorVb
import Derived.Test.YtdcpdknginpohaaGreatDoorVc
set_option linter.unusedSimpArgs false
set_option linter.unusedVariables false
namespace Go.Proofs
open Go.Am
variable (lb : Nat)
def orB (acc : Int) (w : Nat) : Int := if acc / 2 ^ w % 2 == 0 then acc + 2 ^ w else acc
def QbT : Int → List Int → Int
 | acc, [] => acc
 | acc, d :: l => QbT (orB acc (QaV d).toNat) l
abbrev P3 := Int × Int × Int
def pcv3 (x : P3) : List CV := [.int .i64 x.1, .int .i64 x.2.1, .int .i64 x.2.2]
def ofF (l : List Int) : Option P3 :=
 match l with
 | [] => none
 | a :: r => some (a, (a :: r).getLast?.getD 0, QbT 0 (a :: r))
def optP (o : Option P3) : CV := match o with
 | some x => .tup [.agg (pcv3 x), .bool true]
 | none => .tup [.agg [.int .i64 0, .int .i64 0, .int .i64 0], .bool false]
theorem Qyz : ∀ (d : Fin 128) (w : Fin 7), IntKind.wrap .i64 ((BitVec.ofInt 64 ((d.val : Nat) : Int) ||| BitVec.ofInt 64 (IntKind.wrap .i64 (1 * 2 ^ (min ((w.val : Nat) : Int).toNat 64)))).toNat) = orB ((d.val : Nat) : Int) w.val := by decide +kernel
theorem Qxj : ∀ (d : Fin 128) (w : Fin 7), 0 ≤ orB ((d.val : Nat) : Int) w.val ∧ orB ((d.val : Nat) : Int) w.val < 128 := by decide +kernel
theorem Qzz : ∀ (d : Fin 128) (w : Fin 7), (Int.tmod (IntKind.wrap .i64 (Int.tdiv ((d.val : Nat) : Int) (2 ^ w.val))) 2 == 0) = (((d.val : Nat) : Int) / 2 ^ w.val % 2 == 0) := by decide +kernel
theorem Qwj {acc day : Int} (h0 : 0 ≤ acc ∧ acc < 128) (h : 0 ≤ day) : IntKind.wrap .i64 ((BitVec.ofInt 64 acc ||| BitVec.ofInt 64 (IntKind.wrap .i64 (1 * 2 ^ (min (QaV day).toNat 64)))).toNat) = orB acc (QaV day).toNat := by
 obtain ⟨h1, h2⟩ := Qcq h
 obtain ⟨d, rfl⟩ := Int.eq_ofNat_of_zero_le h0.1
 obtain ⟨w, hw⟩ := Int.eq_ofNat_of_zero_le h1
 rw [hw]
 exact Qyz ⟨d, by omega⟩ ⟨w, by omega⟩
theorem QrP {acc day : Int} (h0 : 0 ≤ acc ∧ acc < 128) (h : 0 ≤ day) : 0 ≤ orB acc (QaV day).toNat ∧ orB acc (QaV day).toNat < 128 := by
 obtain ⟨h1, h2⟩ := Qcq h
 obtain ⟨d, rfl⟩ := Int.eq_ofNat_of_zero_le h0.1
 obtain ⟨w, hw⟩ := Int.eq_ofNat_of_zero_le h1
 rw [hw]
 exact Qxj ⟨d, by omega⟩ ⟨w, by omega⟩
theorem QyF {acc day : Int} (h0 : 0 ≤ acc ∧ acc < 128) (h : 0 ≤ day) : (Int.tmod (IntKind.wrap .i64 (Int.tdiv acc (2 ^ (QaV day).toNat))) 2 == 0) = (acc / 2 ^ (QaV day).toNat % 2 == 0) := by
 obtain ⟨h1, h2⟩ := Qcq h
 obtain ⟨d, rfl⟩ := Int.eq_ofNat_of_zero_le h0.1
 obtain ⟨w, hw⟩ := Int.eq_ofNat_of_zero_le h1
 rw [hw]
 exact Qzz ⟨d, by omega⟩ ⟨w, by omega⟩
theorem QwE {day : Int} (h : 0 ≤ day) : (1 : Int) ≤ 2 ^ (QaV day).toNat ∧ (2 : Int) ^ (QaV day).toNat ≤ 64 := by
 obtain ⟨h1, h2⟩ := Qcq h
 have : ∀ q : Fin 7, (1 : Int) ≤ 2 ^ q.val ∧ (2 : Int) ^ q.val ≤ 64 := by decide
 exact this ⟨(QaV day).toNat, by omega⟩
theorem QmU : ∀ (a : List Int) (acc : Int) (b : List Int), QbT acc (a ++ b) = QbT (QbT acc a) b
 | [], _, _ => rfl
 | d :: a, acc, b => by simp only [List.cons_append, QbT]; exact QmU a _ b
theorem QfV : ∀ (l : List Int) (acc : Int), (∀ d ∈ l, 0 ≤ d) → 0 ≤ acc ∧ acc < 128 → 0 ≤ QbT acc l ∧ QbT acc l < 128
 | [], acc, _, h => h
 | d :: l, acc, hd, h => by
  simp only [QbT]
  exact QfV l _ (fun x hx => hd x (by simp [hx])) (QrP h (hd d (by simp)))
def QsJ (l : List Int) : Int := l.head?.getD 0
def Qnm (l : List Int) : Int := l.getLast?.getD 0
theorem Qqm (l : List Int) (x : Int) : Qnm (l ++ [x]) = x := by simp [Qnm]
theorem QvM (l : List Int) (x : Int) (h : l.isEmpty = false) : QsJ (l ++ [x]) = QsJ l := by
 cases l with
 | nil => cases h
 | cons a l => rfl
theorem Qr0 (l : List Int) : optP (ofF l) = .tup [.agg [.int .i64 (QsJ l), .int .i64 (Qnm l), .int .i64 (QbT 0 l)], .bool (!l.isEmpty)] := by
 cases l with
 | nil => rfl
 | cons a r => rfl
theorem QiE {l p t : List Int} {x : Int} (h : p ++ x :: t = l) : (dcv l)[p.length]? = some [.int .i64 x] := by rw [← h]; simp [dcv]
theorem Qn8 (fr to days : Int) (l : List Int) (hd : ∀ d ∈ l, 0 ≤ d) : ∀ (t p : List Int), p ++ t = l →
  Evt fun n => ∀ k, t.length < k → period_Normal_L1 lb n k fr to days (dcv l) p.length (.int .i64 (QsJ p)) (.int .i64 (Qnm p)) (QbT 0 p) (!p.isEmpty) = some (optP (ofF l))
 | [], p, h => by
  have : p = l := by simpa using h
  subst this
  refine .all fun n k hk => ?_
  obtain ⟨k, rfl⟩ : ∃ m, k = m + 1 := ⟨k - 1, by simp at hk; omega⟩
  rw [Qgs]
  refine stF (decF (by simp [dcv])) ?_
  rw [Ql2, Qr0]
 | x :: t, p, h => by
  have hx : 0 ≤ x := hd x (by rw [← h]; simp)
  have hp : ∀ d ∈ p, 0 ≤ d := fun d hm => hd d (by rw [← h]; simp [hm])
  obtain ⟨w1, w2⟩ := Qcq hx
  refine Evt.imp2 (QlD lb x) (Qn8 fr to days l hd t (p ++ [x]) (by rw [← h]; simp)) fun n hw hi k hk => ?_
  obtain ⟨k, rfl⟩ : ∃ m, k = m + 1 := ⟨k - 1, by simp at hk; omega⟩
  have hi := hi k (by simp at hk; omega)
  rw [Qqm, QmU, List.length_append, List.length_singleton] at hi
  simp only [QbT] at hi
  have hne : (!(p ++ [x]).isEmpty) = true := by simp
  rw [hne] at hi
  rw [Qgs]
  refine stT (decT (by rw [← h]; simp [dcv])) (stO _ (QiE h) (stO (.int .i64 x) rfl ?_))
  cases hpe : p.isEmpty with
  | true =>
   have : p = [] := by simpa using hpe
   subst this
   refine stT rfl (stC rfl (stC rfl (stO _ hw (stO _ (QaH ..) (stC (decT w1) ?_)))))
   rw [Qwj (QfV [] 0 (by simp) (by decide)) hx]
   exact hi
  | false =>
   refine stF rfl (stC rfl (stO _ hw (stO _ (QaH ..) (stC (decT w1) ?_))))
   rw [Qwj (QfV p 0 hp (by decide)) hx]
   rw [QvM p x hpe] at hi
   exact hi
theorem QgD (fr to days : Int) : ∀ d ∈ Qar fr to days, 0 ≤ d := fun d hd => (QdD hd).1
theorem Qia (fr to days : Int) : Ret lb Qbb [.agg [.int .i64 fr, .int .i64 to, .int .i64 days]] (optP (ofF (Qar fr to days))) := by
 refine .top rfl (.eq (fun n => by rw [QoV]) ?_)
 have := Evt.diag (Qn8 lb fr to days (Qar fr to days) (QgD fr to days) (Qar fr to days) [] rfl)
 refine this.mono fun n hn => ?_
 exact stO (dcv (Qar fr to days)) rfl (stC (by simp [dcv]) hn)
theorem Qu7 (an : Bool) (l : List Int) (hl : l.length ≤ 100000) (hd : ∀ d ∈ l, 0 ≤ d) (c3 c5 : List CV) (x4 x6 : Int) : ∀ (t p : List Int), p ++ t = l →
  Evt fun n => ∀ k, t.length < k → Qh0 lb n k an (dcv l) c3 (.int .i64 x4) c5 (.int .i64 x6) (p.length : Int) (QbT 0 p) = some (.tup [.agg [.int .i64 x4, .int .i64 x6, .int .i64 (QbT 0 l)], .bool true])
 | [], p, h => by
  have : p = l := by simpa using h
  subst this
  refine .all fun n k hk => ?_
  obtain ⟨k, rfl⟩ : ∃ m, k = m + 1 := ⟨k - 1, by simp at hk; omega⟩
  rw [Qkx]
  refine stF (decF (by simp [dcv])) ?_
  rw [Qs0]
 | x :: t, p, h => by
  have hx : 0 ≤ x := hd x (by rw [← h]; simp)
  have hp : ∀ d ∈ p, 0 ≤ d := fun d hm => hd d (by rw [← h]; simp [hm])
  have hlen : l.length = p.length + (t.length + 1) := by rw [← h]; simp
  obtain ⟨p1, p2⟩ := QwE hx
  have hr := QfV p 0 hp (by decide)
  have hw1 : IntKind.wrap .i64 ((p.length : Int) + 1) = ((p ++ [x]).length : Int) := by rw [QaB (by omega) (by omega)]; simp
  refine Evt.imp2 (Qos lb x hx) (Qu7 an l hl hd c3 c5 x4 x6 t (p ++ [x]) (by rw [← h]; simp)) fun n hw hi k hk => ?_
  obtain ⟨k, rfl⟩ : ∃ m, k = m + 1 := ⟨k - 1, by simp at hk; omega⟩
  have hi := hi k (by simp at hk; omega)
  rw [QmU] at hi
  simp only [QbT] at hi
  rw [Qkx]
  refine stT (decT (by simp [dcv]; omega)) (stO _ (Qa5 (QiE h)) (stC rfl (stO _ rfl (stO _ hw (stO _ (QaH ..) (stC (bneT (by omega)) ?_))))))
  rw [QyF hr hx]
  cases hb : (QbT 0 p / 2 ^ (QaV x).toNat % 2 == 0) with
  | true =>
   have hor : orB (QbT 0 p) (QaV x).toNat = QbT 0 p + 2 ^ (QaV x).toNat := by simp [orB, hb]
   refine stT rfl (stO _ (Qa5 (QiE h)) (stC rfl (stO _ rfl (stO _ hw (stO _ (QaH ..) ?_)))))
   rw [hw1, QaB (x := QbT 0 p + _) (by omega) (by omega), ← hor]
   exact hi
  | false =>
   have hor : orB (QbT 0 p) (QaV x).toNat = QbT 0 p := by simp [orB, hb]
   refine stF rfl ?_
   rw [hw1]
   rw [hor] at hi
   exact hi
theorem Qvh (an : Bool) (l : List Int) (hl : l.length ≤ 100000) (hd : ∀ d ∈ l, 0 ≤ d) : Ret lb Qdu [.list an (dcv l)] (optP (ofF l)) := by
 refine .top rfl (.eq (fun n => by rw [Qw7]) ?_)
 cases l with
 | nil => exact .of rfl
 | cons a r =>
  have hs : (a :: r).getLast?.getD 0 = Qnm (a :: r) := rfl
  obtain ⟨q, z, hq⟩ : ∃ q z, a :: r = q ++ [z] := by
   rcases QgU (a :: r) with h | ⟨q, z, h⟩
   ·cases h
   ·exact ⟨q, z, h⟩
  have hz : Qnm (a :: r) = z := by rw [hq, Qqm]
  have hql : (a :: r).length = q.length + 1 := by rw [hq]; simp
  have := Evt.diag (Qu7 lb an (a :: r) hl hd [.int .i64 a] [.int .i64 z] a z (a :: r) [] rfl)
  refine this.mono fun n hn => ?_
  refine stF (beqF (by simp [dcv]; omega)) (stO _ (Qa5 (i := 0) rfl) (stC rfl (stO _ rfl (stO [.int .i64 z] ?_ (stC rfl (stO _ rfl (stC rfl (stC rfl ?_))))))))
  ·have e : IntKind.wrap .i64 (((dcv (a :: r)).length : Int) - 1) = (q.length : Int) := by
    have : (dcv (a :: r)).length = q.length + 1 := by simp only [dcv, List.length_map]; exact hql
    rw [this, QaB (by omega) (by omega)]; omega
   rw [e]
   exact Qa5 (QiE (t := []) hq.symm)
  ·rw [Qr0, hz]
   exact hn
end Go.Proofs
set_option linter.unusedSimpArgs false
set_option linter.unusedVariables false
namespace Go.Proofs
open Go.Am
variable (lb : Nat)
abbrev Asc (l : List Int) : Prop := l.Pairwise (· < ·)
theorem Asc.ext : ∀ {a b : List Int}, Asc a → Asc b → (∀ x, x ∈ a ↔ x ∈ b) → a = b
 | [], [], _, _, _ => rfl
 | [], y :: b, _, _, h => by have := (h y).2 (by simp); cases this
 | x :: a, [], _, _, h => by have := (h x).1 (by simp); cases this
 | x :: a, y :: b, ha, hb, h => by
  have h1 := List.pairwise_cons.1 ha
  have h2 := List.pairwise_cons.1 hb
  have hxy : x = y := by
   have e1 := (h x).1 (by simp)
   have e2 := (h y).2 (by simp)
   simp only [List.mem_cons] at e1 e2
   rcases e1 with e1 | e1
   ·exact e1
   ·rcases e2 with e2 | e2
    ·exact e2.symm
    ·have := h1.1 y e2
     have := h2.1 x e1
     omega
  subst hxy
  congr 1
  refine Asc.ext h1.2 h2.2 fun z => ⟨fun hz => ?_, fun hz => ?_⟩
  ·have := (h z).1 (by simp [hz])
   simp only [List.mem_cons] at this
   rcases this with rfl | this
   ·have := h1.1 z hz; omega
   ·exact this
  ·have := (h z).2 (by simp [hz])
   simp only [List.mem_cons] at this
   rcases this with rfl | this
   ·have := h2.1 z hz; omega
   ·exact this
theorem Asc.filter {l : List Int} (h : Asc l) (p : Int → Bool) : Asc (l.filter p) := h.sublist List.filter_sublist
theorem QtY (fr days : Int) : ∀ k, Asc (upto fr days k)
 | 0 => List.Pairwise.nil
 | k + 1 => by
  simp only [upto]
  refine List.pairwise_append.2 ⟨QtY fr days k, by split <;> simp, fun a ha b hb => ?_⟩
  have h1 := QoR ha
  split at hb
  ·simp at hb; omega
  ·cases hb
theorem Qfv (fr to days : Int) : Asc (Qar fr to days) := by
 unfold Qar
 split
 ·exact QtY _ _ _
 ·exact List.Pairwise.nil
theorem Qtv {fr days d : Int} : ∀ {k : Nat}, d ∈ upto fr days k ↔ fr ≤ d ∧ d < fr + k ∧ onF days d = true
 | 0 => by simp [upto]; omega
 | k + 1 => by
  simp only [upto, List.mem_append, Qtv (k := k)]
  by_cases ho : onF days (fr + k) = true
  ·rw [if_pos ho]
   simp only [List.mem_singleton]
   constructor
   ·rintro (⟨h1, h2, h3⟩ | rfl)
    ·exact ⟨h1, by omega, h3⟩
    ·exact ⟨by omega, by omega, ho⟩
   ·rintro ⟨h1, h2, h3⟩
    by_cases e : d = fr + k
    ·exact .inr e
    ·exact .inl ⟨h1, by omega, h3⟩
  ·rw [if_neg ho]
   simp only [List.not_mem_nil, or_false]
   constructor
   ·rintro ⟨h1, h2, h3⟩; exact ⟨h1, by omega, h3⟩
   ·rintro ⟨h1, h2, h3⟩
    have : d ≠ fr + k := fun e => ho (by rw [← e]; exact h3)
    exact ⟨h1, by omega, h3⟩
theorem Qbn (fr to days d : Int) : hasF fr to days d = true ↔ perE fr to days = 0 ∧ fr ≤ d ∧ d ≤ to ∧ onF days d = true := by
 unfold hasF
 simp only [Bool.and_eq_true, decide_eq_true_eq]
theorem Qc0 {fr to days d : Int} : d ∈ Qar fr to days ↔ hasF fr to days d = true := by
 rw [Qbn]
 unfold Qar
 by_cases h : perE fr to days = 0
 ·rw [if_pos h, Qtv]
  have := Qc8 h
  constructor
  ·rintro ⟨h1, h2, h3⟩; exact ⟨h, h1, by omega, h3⟩
  ·rintro ⟨_, h1, h2, h3⟩; exact ⟨h1, by omega, h3⟩
 ·rw [if_neg h]
  simp [h]
def andD (a b : Int) : Int := IntKind.wrap .i64 ((BitVec.ofInt 64 a &&& BitVec.ofInt 64 b).toNat)
def notD (b : Int) : Int := IntKind.wrap .i64 ((BitVec.ofInt 64 127 &&& ~~~BitVec.ofInt 64 b).toNat)
theorem Qry : ∀ (a b : Nat), a < 128 → b < 128 → a &&& b < 128 := fun a b ha _ => Nat.lt_of_le_of_lt Nat.and_le_left ha
theorem QsQ {a b : Nat} (ha : a < 128) (hb : b < 128) : andD a b = ((a &&& b : Nat) : Int) := by
 unfold andD
 have e : ∀ n : Nat, BitVec.ofInt 64 (n : Int) = BitVec.ofNat 64 n := fun n => by simp
 rw [e, e]
 have h := Qry a b ha hb
 have : (BitVec.ofNat 64 a &&& BitVec.ofNat 64 b).toNat = a &&& b := by
  rw [BitVec.toNat_and, BitVec.toNat_ofNat, BitVec.toNat_ofNat, Nat.mod_eq_of_lt (by omega), Nat.mod_eq_of_lt (by omega)]
 rw [this, QaB (by omega) (by omega)]
theorem Qq3 (a : Nat) (d : Int) : onF a d = a.testBit (QaV d).toNat := by
 unfold onF
 rw [Nat.testBit_eq_decide_div_mod_eq]
 have : ((a : Int) / 2 ^ (QaV d).toNat % 2) = ((a / 2 ^ (QaV d).toNat % 2 : Nat) : Int) := by
  rw [Int.natCast_emod, Int.natCast_ediv]
  simp
 rw [this]
 by_cases h : a / 2 ^ (QaV d).toNat % 2 = 1
 ·rw [h]; rfl
 ·rw [decide_eq_false h]
  simp; omega
theorem QvQ {a b : Int} (ha : 0 ≤ a ∧ a < 128) (hb : 0 ≤ b ∧ b < 128) : 0 ≤ andD a b ∧ andD a b < 128 := by
 obtain ⟨a, rfl⟩ := Int.eq_ofNat_of_zero_le ha.1
 obtain ⟨b, rfl⟩ := Int.eq_ofNat_of_zero_le hb.1
 rw [QsQ (by omega) (by omega)]
 have := Qry a b (by omega) (by omega)
 omega
theorem Qu6 {a b : Int} (ha : 0 ≤ a ∧ a < 128) (hb : 0 ≤ b ∧ b < 128) (d : Int) : onF (andD a b) d = (onF a d && onF b d) := by
 obtain ⟨a, rfl⟩ := Int.eq_ofNat_of_zero_le ha.1
 obtain ⟨b, rfl⟩ := Int.eq_ofNat_of_zero_le hb.1
 rw [QsQ (by omega) (by omega), Qq3, Qq3, Qq3, Nat.testBit_and]
theorem QqG (d : Int) : onF 0 d = false := by unfold onF; simp
theorem Qzc : ∀ w : Fin 7, ((127 : Int) / 2 ^ w.val % 2 == 1) = true := by decide
theorem Qno {d : Int} (h : 0 ≤ d) : onF 127 d = true := by
 obtain ⟨h1, h2⟩ := Qcq h
 exact Qzc ⟨(QaV d).toNat, by omega⟩
theorem QwX : ∀ b : Fin 128, 0 ≤ notD ((b.val : Nat) : Int) ∧ notD ((b.val : Nat) : Int) < 128 := by decide +kernel
theorem Qzr : ∀ (b : Fin 128) (w : Fin 7), (notD ((b.val : Nat) : Int) / 2 ^ w.val % 2 == 1) = !(((b.val : Nat) : Int) / 2 ^ w.val % 2 == 1) := by decide +kernel
theorem Qiz {b : Int} (hb : 0 ≤ b ∧ b < 128) : 0 ≤ notD b ∧ notD b < 128 := by
 obtain ⟨b, rfl⟩ := Int.eq_ofNat_of_zero_le hb.1
 exact QwX ⟨b, by omega⟩
theorem QqA {b d : Int} (hb : 0 ≤ b ∧ b < 128) (h : 0 ≤ d) : onF (notD b) d = !onF b d := by
 obtain ⟨h1, h2⟩ := Qcq h
 obtain ⟨b, rfl⟩ := Int.eq_ofNat_of_zero_le hb.1
 exact Qzr ⟨b, by omega⟩ ⟨(QaV d).toNat, by omega⟩
def maxP (a b : Int) : Int := if b > a then b else a
def minP (a b : Int) : Int := if b < a then b else a
theorem QgN {fr to days f t D x : Int} (h0 : perE fr to days = 0) (hD : 0 ≤ D ∧ D < 128) :
  x ∈ Qar (maxP fr f) (minP to t) (andD days D) ↔ hasF fr to days x = true ∧ f ≤ x ∧ x ≤ t ∧ onF D x = true := by
 obtain ⟨a0, a1, a2, a3, a4, a5⟩ := Qc8 h0
 have hr := QvQ (a := days) (b := D) (by omega) hD
 rw [Qc0, Qbn, Qbn, Qu6 (by omega) hD, Bool.and_eq_true]
 have hm1 : maxP fr f ≤ x ↔ fr ≤ x ∧ f ≤ x := by unfold maxP; split <;> omega
 have hm2 : x ≤ minP to t ↔ x ≤ to ∧ x ≤ t := by unfold minP; split <;> omega
 rw [hm1, hm2]
 constructor
 ·rintro ⟨_, ⟨h1, h2⟩, ⟨h3, h4⟩, h5, h6⟩
  exact ⟨⟨h0, h1, h3, h5⟩, h2, h4, h6⟩
 ·rintro ⟨⟨_, h1, h3, h5⟩, h2, h4, h6⟩
  refine ⟨?_, ⟨h1, h2⟩, ⟨h3, h4⟩, h5, h6⟩
  have hne : andD days D ≠ 0 := fun e => by
   have := Qu6 (a := days) (b := D) (by omega) hD x
   rw [e, QqG, h5, h6] at this
   cases this
  have q1 : maxP fr f ≤ x := hm1.2 ⟨h1, h2⟩
  have q2 : x ≤ minP to t := hm2.2 ⟨h3, h4⟩
  have q3 : fr ≤ maxP fr f := by unfold maxP; split <;> omega
  have q4 : minP to t ≤ to := by unfold minP; split <;> omega
  unfold perE
  rw [if_neg (by omega), if_neg (by omega), if_neg (by omega)]
def Qc9 (fr to days f t D : Int) : Option P3 := ofF (Qar (maxP fr f) (minP to t) (andD days D))
theorem Qeh (fr to days f t D : Int) : Ret lb Qbm [.agg [.int .i64 fr, .int .i64 to, .int .i64 days], .int .i64 f, .int .i64 t, .int .i64 D] (optP (Qc9 fr to days f t D)) := by
 refine .top rfl (.eq (fun n => by rw [QoN]) ?_)
 refine (Qia lb (maxP fr f) (minP to t) (andD days D)).mono fun n hn => ?_
 unfold Qc9
 cases hc : ofF (Qar (maxP fr f) (minP to t) (andD days D)) with
 | none => rw [hc] at hn; exact stO _ hn rfl
 | some x => rw [hc] at hn; exact stO _ hn rfl
def Qe7 (fr to days fr' to' days' : Int) : List Int := (Qar fr to days).filter fun d => hasF fr' to' days' d
def Qdk (fr to days fr' to' days' : Int) : Option P3 := ofF (Qe7 fr to days fr' to' days')
theorem Qy2 {fr to days : Int} (h : perE fr to days ≠ 0) (d : Int) : hasF fr to days d = false := by
 unfold hasF; rw [decF h]; rfl
theorem Qpn {fr to days : Int} (h : perE fr to days ≠ 0) : Qar fr to days = [] := by unfold Qar; rw [if_neg h]
theorem Qjq (fr to days fr' to' days' : Int) : Ret lb Qgf [.agg [.int .i64 fr, .int .i64 to, .int .i64 days], .agg [.int .i64 fr', .int .i64 to', .int .i64 days']] (optP (Qdk fr to days fr' to' days')) := by
 refine .top rfl (.eq (fun n => by rw [Qrb]) ?_)
 refine (QbO lb fr to days).and ((QbO lb fr' to' days').and (Qeh lb fr to days fr' to' days')) |>.mono fun n ⟨h1, h2, h3⟩ => ?_
 refine stO _ h1 (stO _ (QaH ..) ?_)
 by_cases ha : perE fr to days = 0
 ·refine stF (bneF ha) (stO _ h2 (stO _ (QaH ..) ?_))
  by_cases hb : perE fr' to' days' = 0
  ·refine stF (bneF hb) ?_
   have e : Qc9 fr to days fr' to' days' = Qdk fr to days fr' to' days' := by
    unfold Qc9 Qdk Qe7
    congr 1
    obtain ⟨b0, b1, b2, b3, b4, b5⟩ := Qc8 hb
    refine Asc.ext (Qfv _ _ _) ((Qfv _ _ _).filter _) fun x => ?_
    rw [QgN ha (by omega), List.mem_filter, Qc0, Qbn fr' to' days']
    constructor
    ·rintro ⟨q1, q2, q3, q4⟩; exact ⟨q1, hb, q2, q3, q4⟩
    ·rintro ⟨q1, _, q2, q3, q4⟩; exact ⟨q1, q2, q3, q4⟩
   rw [e] at h3
   refine stO _ h3 ?_
   cases Qdk fr to days fr' to' days' with
   | none => rfl
   | some x => rfl
  ·refine stT (bneT hb) ?_
   have : Qdk fr to days fr' to' days' = none := by
    unfold Qdk Qe7
    rw [List.filter_eq_nil_iff.2 fun d _ => by rw [Qy2 hb]; simp]
    rfl
   rw [this]; rfl
 ·refine stT (bneT ha) ?_
  have : Qdk fr to days fr' to' days' = none := by
   unfold Qdk Qe7
   rw [Qpn ha]
   rfl
  rw [this]; rfl
theorem QrO (fr to days fr' to' days' : Int) (l : List Int) (hl : l.length ≤ 1000) (b0 : Bool) : ∀ (t p : List Int), p ++ t = l →
  Evt fun n => ∀ k, t.length < k → Qf4 lb n k fr to days fr' to' days' (.list b0 (dcv l)) (p.filter fun d => hasF fr' to' days' d).isEmpty (dcv (p.filter fun d => hasF fr' to' days' d)) (p.length : Int) =
   QjY lb n fr to days fr' to' days' (.list b0 (dcv l)) (l.filter fun d => hasF fr' to' days' d).isEmpty (dcv (l.filter fun d => hasF fr' to' days' d)) (l.length : Int)
 | [], p, h => by
  have : p = l := by simpa using h
  subst this
  refine .all fun n k hk => ?_
  obtain ⟨k, rfl⟩ : ∃ m, k = m + 1 := ⟨k - 1, by simp at hk; omega⟩
  rw [Qi6]
  exact stO _ (QaX ..) (stF (decF (by simp [dcv])) rfl)
 | x :: t, p, h => by
  have hlen : l.length = p.length + (t.length + 1) := by rw [← h]; simp
  have hw1 : IntKind.wrap .i64 ((p.length : Int) + 1) = ((p ++ [x]).length : Int) := by rw [QaB (by omega) (by omega)]; simp
  refine Evt.imp2 (Qf3 lb fr' to' days' x) (QrO fr to days fr' to' days' l hl b0 t (p ++ [x]) (by rw [← h]; simp)) fun n hw hi k hk => ?_
  obtain ⟨k, rfl⟩ : ∃ m, k = m + 1 := ⟨k - 1, by simp at hk; omega⟩
  have hi := hi k (by simp at hk; omega)
  rw [Qi6]
  refine stO _ (QaX ..) (stT (decT (by simp [dcv]; omega)) (stO _ (QaX ..) (stO _ (Qa5 (QiE h)) (stC rfl (stO _ rfl (stO _ hw (stO _ (QaF _) ?_)))))))
  rw [List.filter_append] at hi
  cases hh : hasF fr' to' days' x with
  | true =>
   have e : [x].filter (fun d => hasF fr' to' days' d) = [x] := by simp [hh]
   rw [e] at hi
   refine stT rfl (stO _ (QaX ..) (stO _ (Qa5 (QiE h)) (stC rfl (stO _ rfl (stC rfl (stC (Qce ?_ (by omega)) ?_))))))
   ·have := List.length_filter_le (fun d => hasF fr' to' days' d) p
    simp [dcv]; omega
   ·rw [hw1, QcS (p.filter fun d => hasF fr' to' days' d) x]
    simpa [dcv] using hi
  | false =>
   have e : [x].filter (fun d => hasF fr' to' days' d) = [] := by simp [hh]
   rw [e, List.append_nil] at hi
   exact stF rfl (by rw [hw1]; exact hi)
theorem Qqp (l : List Int) (p : Int → Bool) (h : l.length ≤ 800) : (l.filter p).length ≤ 100000 := by
 have := List.length_filter_le p l
 omega
theorem QtZ (fr to days fr' to' days' : Int) : Ret lb Qcu [.agg [.int .i64 fr, .int .i64 to, .int .i64 days], .agg [.int .i64 fr', .int .i64 to', .int .i64 days']] (optP (Qdk fr to days fr' to' days')) := by
 refine .top rfl (.eq (fun n => by rw [Qus]) ?_)
 have hl := QjW fr to days
 have h1 := Evt.diag (QrO lb fr to days fr' to' days' (Qar fr to days) (by omega) (Qar fr to days).isEmpty (Qar fr to days) [] rfl)
 have h2 := Qvh lb (Qe7 fr to days fr' to' days').isEmpty (Qe7 fr to days fr' to' days') (Qqp _ _ hl) (fun d hd => QgD fr to days d (List.mem_filter.1 hd).1)
 refine (Qmp lb fr to days).and (Evt.and h1 h2) |>.mono fun n ⟨q1, q2, q3⟩ => ?_
 refine stO _ q1 (q2.trans ?_)
 rw [QqS]
 refine stO _ q3 ?_
 unfold Qdk
 cases ofF (Qe7 fr to days fr' to' days') with
 | none => rfl
 | some x => rfl
end Go.Proofs
set_option linter.unusedSimpArgs false
set_option linter.unusedVariables false
namespace Go.Proofs
open Go.Am
variable (lb : Nat)
def Qfi (f t fr to days d : Int) : Bool := decide (d ≥ f) && (decide (d ≤ t) && !hasF fr to days d)
def QhW (fr to days fr' to' days' : Int) : List (List Int) :=
 if perE fr' to' days' = 0 then [(Qar fr to days).filter (Qfi 0 (fr' - 1) fr' to' days'), (Qar fr to days).filter (Qfi fr' to' fr' to' days'), (Qar fr to days).filter (Qfi (to' + 1) 36525 fr' to' days')]
 else [Qar fr to days]
def Qch (fr to days fr' to' days' : Int) : List P3 := (QhW fr to days fr' to' days').filterMap ofF
def pl3 (l : List P3) : List (List CV) := l.map pcv3
theorem Qxw (o : List P3) (x : P3) (b : Bool) : (b && false) = (o ++ [x]).isEmpty := by simp
theorem QwF (fr to days fr' to' days' : Int) : (QhW fr to days fr' to' days').length ≤ 3 ∧ ∀ x ∈ QhW fr to days fr' to' days', x.length ≤ 100000 ∧ ∀ d ∈ x, 0 ≤ d := by
 have hl := QjW fr to days
 have sub : ∀ q : Int → Bool, ((Qar fr to days).filter q).length ≤ 100000 ∧ ∀ d ∈ (Qar fr to days).filter q, 0 ≤ d := fun q =>
  ⟨Qqp _ _ hl, fun d hd => QgD fr to days d (List.mem_filter.1 hd).1⟩
 unfold QhW
 split
 ·refine ⟨by simp, fun x hx => ?_⟩
  simp only [List.mem_cons, List.not_mem_nil, or_false] at hx
  rcases hx with rfl | rfl | rfl <;> exact sub _
 ·refine ⟨by simp, fun x hx => ?_⟩
  simp only [List.mem_cons, List.not_mem_nil, or_false] at hx
  subst hx
  exact ⟨by omega, QgD fr to days⟩
theorem Qj4 {fr to days f t D : Int} (q : Int → Bool) (h0 : perE fr to days = 0) (hD : 0 ≤ D ∧ D < 128) (hq : ∀ x, hasF fr to days x = true → ((f ≤ x ∧ x ≤ t ∧ onF D x = true) ↔ q x = true)) :
  Qc9 fr to days f t D = ofF ((Qar fr to days).filter q) := by
 unfold Qc9
 congr 1
 refine Asc.ext (Qfv _ _ _) ((Qfv _ _ _).filter _) fun x => ?_
 rw [QgN h0 hD, List.mem_filter, Qc0]
 constructor
 ·rintro ⟨h1, h2⟩; exact ⟨h1, (hq x h1).1 h2⟩
 ·rintro ⟨h1, h2⟩; exact ⟨h1, (hq x h1).2 h2⟩
theorem QtO {β : Type} (o : Option P3) (J : Bool → List (List CV) → Option β) (F : List P3) (hF : F.length ≤ 1000) (r : Option β) (h : J (F ++ o.toList).isEmpty (pl3 (F ++ o.toList)) = r) :
  (optO (CV.asT (optP o)) fun t37 => optO (t37[0]?) fun yE => optO (CV.asT (optP o)) fun pq => optO (pq[1]?) fun kX => optO (CV.asA yE) fun c41 => chkO (c41.length == 3) (
   optO (c41[0]?) fun gi => optO (c41[1]?) fun oi => optO (c41[2]?) fun k4 => optO (CV.asB kX) fun oL =>
   bif oL then (chkO (room ((pl3 F).length + 1) 24) (J (F.isEmpty && false) (pl3 F ++ [[gi, oi, k4]]))) else (J F.isEmpty (pl3 F)))) = r := by
 cases o with
 | none => rw [← h, Option.toList_none, List.append_nil]; rfl
 | some x =>
  refine stO _ rfl (stO _ rfl (stO _ rfl (stO _ rfl (stO _ rfl (stC rfl (stO _ rfl (stO _ rfl (stO _ rfl (stO _ rfl (stT rfl (stC (Qce (by simp [pl3]; omega) (by omega)) ?_)))))))))))
  rw [← h, Qxw F x]
  simp [pl3, pcv3]
theorem Qvj (n : Nat) (fr to days fr' to' days' : Int) (o3 : Option P3) (F : List P3) (hF : F.length ≤ 2)
  (h6 : C lb n Qbm [.agg [.int .i64 fr, .int .i64 to, .int .i64 days], .int .i64 (IntKind.wrap .i64 (to' + 1)), .int .i64 to, .int .i64 127] = some (optP o3)) :
  Qdv lb n fr to days fr' to' days' F.isEmpty (pl3 F) = some (.list (F ++ o3.toList).isEmpty (pl3 (F ++ o3.toList))) := by
 rw [Qlv]
 have q := QtO o3 (fun (b : Bool) (l : List (List CV)) => some (CV.list b l)) F (by omega) _ rfl
 refine stO _ h6 ?_
 generalize o3.toList = u at q ⊢
 exact q
theorem QvN (n : Nat) (fr to days fr' to' days' : Int) (o2 o3 : Option P3) (F : List P3) (hF : F.length ≤ 1)
  (h5 : C lb n Qbm [.agg [.int .i64 fr, .int .i64 to, .int .i64 days], .int .i64 fr', .int .i64 to', .int .i64 (notD days')] = some (optP o2))
  (h6 : C lb n Qbm [.agg [.int .i64 fr, .int .i64 to, .int .i64 days], .int .i64 (IntKind.wrap .i64 (to' + 1)), .int .i64 to, .int .i64 127] = some (optP o3)) :
  Qek lb n fr to days fr' to' days' F.isEmpty (pl3 F) = some (.list (F ++ o2.toList ++ o3.toList).isEmpty (pl3 (F ++ o2.toList ++ o3.toList))) := by
 rw [Qlw]
 have lo : o2.toList.length ≤ 1 := by cases o2 <;> simp
 exact stO _ h5 (QtO _ (fun b l => Qdv lb n fr to days fr' to' days' b l) F (by omega) _ (Qvj lb n fr to days fr' to' days' o3 _ (by simp only [List.length_append]; omega) h6))
theorem QuL (n : Nat) (fr to days fr' to' days' : Int) (o1 o2 o3 : Option P3) (e1 e2 : Int)
  (g1 : C lb n Qbt [.agg [.int .i64 fr, .int .i64 to, .int .i64 days]] = some (.int .i64 0))
  (g2 : C lb n Qbt [.agg [.int .i64 fr', .int .i64 to', .int .i64 days']] = some (.int .i64 0))
  (h4 : C lb n Qbm [.agg [.int .i64 fr, .int .i64 to, .int .i64 days], .int .i64 fr, .int .i64 (IntKind.wrap .i64 (fr' - 1)), .int .i64 127] = some (optP o1))
  (h5 : C lb n Qbm [.agg [.int .i64 fr, .int .i64 to, .int .i64 days], .int .i64 fr', .int .i64 to', .int .i64 (notD days')] = some (optP o2))
  (h6 : C lb n Qbm [.agg [.int .i64 fr, .int .i64 to, .int .i64 days], .int .i64 (IntKind.wrap .i64 (to' + 1)), .int .i64 to, .int .i64 127] = some (optP o3)) :
  top lb n Qbo [.agg [.int .i64 fr, .int .i64 to, .int .i64 days], .agg [.int .i64 fr', .int .i64 to', .int .i64 days']] =
   some (.list (o1.toList ++ o2.toList ++ o3.toList).isEmpty (pl3 (o1.toList ++ o2.toList ++ o3.toList))) := by
 rw [QfP]
 refine stO _ g1 (stO _ (QaH ..) (stF rfl (stO _ g2 (stO _ (QaH ..) (stF rfl (stO _ h4 ?_))))))
 have lo : o1.toList.length ≤ 1 := by cases o1 <;> simp
 have step := QvN lb n fr to days fr' to' days' o2 o3 o1.toList lo h5 h6
 clear h4 h5 h6 g1 g2 lo
 cases o1 with
 | none => exact stO _ rfl (stO _ rfl (stO _ rfl (stO _ rfl (stO _ rfl (stC rfl (stO _ rfl (stO _ rfl (stO _ rfl (stO _ rfl (stF rfl step))))))))))
 | some x => exact stO _ rfl (stO _ rfl (stO _ rfl (stO _ rfl (stO _ rfl (stC rfl (stO _ rfl (stO _ rfl (stO _ rfl (stO _ rfl (stT rfl step))))))))))
theorem Qv4 (fr to days fr' to' days' : Int) (hb : perE fr' to' days' ≠ 0) (n : Nat) (g1 : C lb n Qbt [.agg [.int .i64 fr, .int .i64 to, .int .i64 days]] = some (.int .i64 0))
  (g2 : C lb n Qbt [.agg [.int .i64 fr', .int .i64 to', .int .i64 days']] = some (.int .i64 (perE fr' to' days'))) (o : Option P3)
  (h3 : C lb n Qbb [.agg [.int .i64 fr, .int .i64 to, .int .i64 days]] = some (optP o)) :
  top lb n Qbo [.agg [.int .i64 fr, .int .i64 to, .int .i64 days], .agg [.int .i64 fr', .int .i64 to', .int .i64 days']] =
   some (.list o.toList.isEmpty (pl3 o.toList)) := by
 rw [QfP]
 refine stO _ g1 (stO _ (QaH ..) (stF rfl (stO _ g2 (stO _ (QaH ..) (stT (bneT hb) (stO _ h3 ?_))))))
 cases o with
 | none => rfl
 | some x => rfl
theorem Qzf (a b c : Option P3) : a.toList ++ b.toList ++ c.toList = ([a, b, c].filterMap id) := by
 cases a <;> cases b <;> cases c <;> rfl
theorem Qge (fr to days fr' to' days' : Int) (ha : perE fr to days = 0) (hb : perE fr' to' days' = 0) :
  Qch fr to days fr' to' days' = (Qc9 fr to days fr (fr' - 1) 127).toList ++ (Qc9 fr to days fr' to' (notD days')).toList ++ (Qc9 fr to days (to' + 1) to 127).toList := by
 obtain ⟨b0, b1, b2, b3, b4, b5⟩ := Qc8 hb
 obtain ⟨a0, a1, a2, a3, a4, a5⟩ := Qc8 ha
 have p1 : Qc9 fr to days fr (fr' - 1) 127 = ofF ((Qar fr to days).filter (Qfi 0 (fr' - 1) fr' to' days')) := Qj4 _ ha (by omega) fun x hx => by
  have hx0 : 0 ≤ x := (QdD (Qc0.2 hx)).1
  have hx1 := (Qbn ..).1 hx
  unfold Qfi
  simp only [Bool.and_eq_true, decide_eq_true_eq, Bool.not_eq_true']
  constructor
  ·rintro ⟨_, h2, _⟩
   exact ⟨hx0, h2, by cases hh : hasF fr' to' days' x with | false => rfl | true => have := (Qbn ..).1 hh; omega⟩
  ·rintro ⟨_, h2, _⟩
   exact ⟨hx1.2.1, h2, Qno hx0⟩
 have p2 : Qc9 fr to days fr' to' (notD days') = ofF ((Qar fr to days).filter (Qfi fr' to' fr' to' days')) := Qj4 _ ha (Qiz (by omega)) fun x hx => by
  have hx0 : 0 ≤ x := (QdD (Qc0.2 hx)).1
  unfold Qfi
  rw [QqA (by omega) hx0]
  simp only [Bool.and_eq_true, decide_eq_true_eq, Bool.not_eq_true']
  constructor
  ·rintro ⟨h1, h2, h3⟩
   exact ⟨h1, h2, by cases hh : hasF fr' to' days' x with | false => rfl | true => have := ((Qbn ..).1 hh).2.2.2; rw [this] at h3; cases h3⟩
  ·rintro ⟨h1, h2, h3⟩
   refine ⟨h1, h2, ?_⟩
   cases ho : onF days' x with
   | false => rfl
   | true => rw [(Qbn ..).2 ⟨hb, h1, h2, ho⟩] at h3; cases h3
 have p3 : Qc9 fr to days (to' + 1) to 127 = ofF ((Qar fr to days).filter (Qfi (to' + 1) 36525 fr' to' days')) := Qj4 _ ha (by omega) fun x hx => by
  have hx0 : 0 ≤ x := (QdD (Qc0.2 hx)).1
  have hx1 := (Qbn ..).1 hx
  unfold Qfi
  simp only [Bool.and_eq_true, decide_eq_true_eq, Bool.not_eq_true']
  constructor
  ·rintro ⟨h1, h2, _⟩
   exact ⟨h1, by omega, by cases hh : hasF fr' to' days' x with | false => rfl | true => have := (Qbn ..).1 hh; omega⟩
  ·rintro ⟨h1, _, _⟩
   exact ⟨h1, hx1.2.2.1, Qno hx0⟩
 rw [p1, p2, p3]
 unfold Qch QhW
 rw [if_pos hb, Qzf]
 simp only [List.filterMap_cons, List.filterMap_nil, id]
theorem QuG (fr to days fr' to' days' : Int) (ha : perE fr to days ≠ 0) : Qch fr to days fr' to' days' = [] := by
 unfold Qch QhW
 rw [Qpn ha]
 split <;> rfl
theorem Qsl (fr to days fr' to' days' : Int) (hb : perE fr' to' days' ≠ 0) : Qch fr to days fr' to' days' = (ofF (Qar fr to days)).toList := by
 unfold Qch QhW
 rw [if_neg hb]
 simp only [List.filterMap_cons, List.filterMap_nil]
 cases ofF (Qar fr to days) <;> rfl
theorem Qmd (fr to days fr' to' days' : Int) : Ret lb Qbo [.agg [.int .i64 fr, .int .i64 to, .int .i64 days], .agg [.int .i64 fr', .int .i64 to', .int .i64 days']]
  (.list (Qch fr to days fr' to' days').isEmpty (pl3 (Qch fr to days fr' to' days'))) := by
 by_cases ha : perE fr to days = 0
 ·by_cases hb : perE fr' to' days' = 0
  ·obtain ⟨b0, b1, b2, b3, b4, b5⟩ := Qc8 hb
   rw [Qge fr to days fr' to' days' ha hb]
   refine .top rfl ?_
   have q1 := Qeh lb fr to days fr (IntKind.wrap .i64 (fr' - 1)) 127
   have q2 := Qeh lb fr to days fr' to' (notD days')
   have q3 := Qeh lb fr to days (IntKind.wrap .i64 (to' + 1)) to 127
   have w1 : IntKind.wrap .i64 (fr' - 1) = fr' - 1 := QaB (by omega) (by omega)
   have w2 : IntKind.wrap .i64 (to' + 1) = to' + 1 := QaB (by omega) (by omega)
   refine (QbO lb fr to days).and ((QbO lb fr' to' days').and (q1.and (q2.and q3))) |>.mono fun n ⟨h1, h2, h4, h5, h6⟩ => ?_
   rw [ha] at h1
   rw [hb] at h2
   refine QuL lb n fr to days fr' to' days' _ _ _ 0 0 h1 h2 ?_ h5 ?_
   ·rw [h4, w1]
   ·rw [h6, w2]
  ·rw [Qsl fr to days fr' to' days' hb]
   refine .top rfl ?_
   refine (QbO lb fr to days).and ((QbO lb fr' to' days').and (Qia lb fr to days)) |>.mono fun n ⟨h1, h2, h3⟩ => ?_
   rw [ha] at h1
   exact Qv4 lb fr to days fr' to' days' hb n h1 h2 _ h3
 ·rw [QuG fr to days fr' to' days' ha]
  refine .top rfl (.eq (fun n => by rw [QfP]) ?_)
  refine (QbO lb fr to days).mono fun n h1 => ?_
  exact stO _ h1 (stO _ (QaH ..) (stT (bneT ha) rfl))
end Go.Proofs
set_option linter.unusedSimpArgs false
set_option linter.unusedVariables false
namespace Go.Proofs
open Go.Am
variable (lb : Nat)
structure Rv where
 kind : Int
 car : Bs
 num : Int
 fr : Int
 to : Int
 days : Int
 min : Int
 eq : Bs
 ln : Bool
 legs : List Lg
abbrev rvcv (r : Rv) : CV := .agg [.int .i64 r.kind, .str r.car, .int .i64 r.num, .int .i64 r.fr, .int .i64 r.to, .int .i64 r.days, .int .i64 r.min, .str r.eq, .list r.ln (r.legs.map lgcv)]
def Qjl (f : Fl) (r : Rv) : Option P3 := Qdk f.fr f.to f.days r.fr r.to r.days
def Qa2 (f : Fl) (r : Rv) : Bool := (f.car == r.car) && ((f.num == r.num) && (Qjl f r).isSome)
theorem QdB (f : Fl) (r : Rv) : Ret lb QdW [flcv f, rvcv r] (.bool (Qa2 f r)) := by
 refine .top rfl ((Qjq lb f.fr f.to f.days r.fr r.to r.days).mono fun n h => ?_)
 rw [Ql9]
 unfold Qa2 Qjl
 cases h1 : f.car == r.car with
 | false => exact stT rfl rfl
 | true =>
  refine stF rfl ?_
  by_cases hn : f.num = r.num
  ·refine stF (bneF hn) (stO _ h ?_)
   rw [beqT hn]
   generalize Qdk f.fr f.to f.days r.fr r.to r.days = o
   cases o <;> rfl
  ·rw [beqF hn]
   exact stT (bneT hn) rfl
def QcP (f g : Fl) : Bool := (f.car == g.car) && ((f.num == g.num) && (Qdk f.fr f.to f.days g.fr g.to g.days).isSome)
theorem Qr7 (f g : Fl) : Ret lb Qkc [flcv f, flcv g] (.bool (QcP f g)) := by
 refine .top rfl ((QtZ lb f.fr f.to f.days g.fr g.to g.days).mono fun n h => ?_)
 rw [Qs5]
 unfold QcP
 refine stO _ h ?_
 generalize Qdk f.fr f.to f.days g.fr g.to g.days = o
 cases o with
 | none => cases f.car == g.car <;> cases f.num == g.num <;> rfl
 | some x => cases f.car == g.car <;> cases f.num == g.num <;> rfl
def Qdx (r : Rv) (x : Lg) : Lg :=
 if r.kind = 3 then { x with dep := IntKind.wrap .i64 (x.dep + r.min), arr := IntKind.wrap .i64 (x.arr + r.min) } else if r.kind = 4 then { x with eq := r.eq } else x
def QaE (r : Rv) (f : Fl) (q : P3) : Fl :=
 if r.kind = 5 then { f with fr := q.1, to := q.2.1, days := q.2.2, ln := r.ln, legs := r.legs } else { f with fr := q.1, to := q.2.1, days := q.2.2, ln := f.legs.isEmpty, legs := f.legs.map (Qdx r) }
theorem set1 {α : Type} (Q : List α) (x a : α) : ∀ P : List α, setN (P ++ x :: Q) P.length a = P ++ a :: Q
 | [] => rfl
 | p :: P => by
  show p :: setN (P ++ x :: Q) P.length a = _
  rw [set1 Q x a P]; rfl
theorem QsI (k : Nat) : 0 + ((k : Int)).toNat = k := by omega
theorem Qpe (n : Nat) (f : Fl) (r : Rv) (hl : f.legs.length ≤ 1000) (hk : r.kind = 3 ∨ r.kind = 4) (yq wb w4 wQ wD wW : CV) : ∀ (t p : List Lg) (k : Nat), p ++ t = f.legs → t.length < k →
  Qc6 lb n k f.car f.num f.fr f.to f.days f.ln (f.legs.map lgcv) r.kind r.car r.num r.fr r.to r.days r.min r.eq r.ln (r.legs.map lgcv) yq wb w4 wQ wD wW (p.length : Int) ((p.map (Qdx r) ++ t).map lgcv) =
   some (.agg [.str f.car, .int .i64 f.num, wQ, wD, wW, .list false ((f.legs.map (Qdx r)).map lgcv)])
 | [], p, k, h, hk' => by
  obtain ⟨k, rfl⟩ : ∃ m, k = m + 1 := ⟨k - 1, by simp at hk'; omega⟩
  have hp : p = f.legs := by simpa using h
  subst hp
  rw [Qfn]
  refine stF (decF (by simp)) ?_
  rw [Qj6]
  refine stC (decT (by simp)) ?_
  rw [List.drop_zero, List.append_nil, List.take_of_length_le (by simp)]
 | x :: t, p, k, h, hk' => by
  obtain ⟨k, rfl⟩ : ∃ m, k = m + 1 := ⟨k - 1, by simp at hk'; omega⟩
  have hlen : f.legs.length = p.length + (t.length + 1) := by rw [← h]; simp
  have hw : IntKind.wrap .i64 ((p.length : Int) + 1) = ((p ++ [x]).length : Int) := by rw [QaB (by omega) (by omega)]; simp
  have hL : ((p.map (Qdx r)).map lgcv).length = p.length := by simp
  have e0 : (p.map (Qdx r) ++ x :: t).map lgcv = (p.map (Qdx r)).map lgcv ++ lgcv x :: t.map lgcv := by simp
  have e1 : ((p.map (Qdx r)).map lgcv ++ lgcv x :: t.map lgcv)[0 + ((p.length : Int)).toNat]? = some (lgcv x) := by
   rw [QsI, List.getElem?_append_right (by simp)]; simp
  have st : ∀ a : List CV, setN ((p.map (Qdx r)).map lgcv ++ lgcv x :: t.map lgcv) (0 + ((p.length : Int)).toNat) a = (p.map (Qdx r)).map lgcv ++ a :: t.map lgcv := fun a => by
   have := set1 (t.map lgcv) (lgcv x) a ((p.map (Qdx r)).map lgcv)
   rw [hL] at this
   rw [QsI, this]
  have st2 : ∀ a b : List CV, setN ((p.map (Qdx r)).map lgcv ++ b :: t.map lgcv) (0 + ((p.length : Int)).toNat) a = (p.map (Qdx r)).map lgcv ++ a :: t.map lgcv := fun a b => by
   have := set1 (t.map lgcv) b a ((p.map (Qdx r)).map lgcv)
   rw [hL] at this
   rw [QsI, this]
  have e2 : ∀ a : List CV, (setN ((p.map (Qdx r)).map lgcv ++ lgcv x :: t.map lgcv) (0 + ((p.length : Int)).toNat) a)[0 + ((p.length : Int)).toNat]? = some a := fun a => by
   rw [st, QsI, List.getElem?_append_right (by simp)]; simp
  have ih := Qpe n f r hl hk yq wb w4 wQ wD wW t (p ++ [x]) k (by rw [← h]; simp) (by simp at hk'; omega)
  rw [Qfn, e0]
  refine stT (decT (by simp; omega)) (stC (by rw [Bool.and_eq_true, decide_eq_true_eq, decide_eq_true_eq]; simp; omega) ?_)
  rcases hk with h3 | h4
  ·refine stT (beqT h3) (stO _ e1 (stO _ rfl (stO _ (QaH ..) (stO _ e1 (stC rfl (stO _ (e2 _) (stO _ rfl (stO _ (QaH ..) (stO _ (e2 _) (stC rfl ?_))))))))))
   rw [hw, st, st2]
   have e5 : lgcv (Qdx r x) = Qbk (Qbk (lgcv x) 2 [.int .i64 (IntKind.wrap .i64 (x.dep + r.min))]) 3 [.int .i64 (IntKind.wrap .i64 (x.arr + r.min))] := by
    unfold Qdx; rw [if_pos h3]; rfl
   rw [← e5]
   simpa using ih
  ·have h3 : ¬ r.kind = 3 := by omega
   refine stF (beqF h3) (stO _ e1 (stC rfl ?_))
   rw [hw, st]
   have e5 : lgcv (Qdx r x) = Qbk (lgcv x) 4 [.str r.eq] := by
    unfold Qdx; rw [if_neg h3, if_pos h4]; rfl
   rw [← e5]
   simpa using ih
theorem Qlf (f : Fl) (r : Rv) (q : P3) (hl : f.legs.length ≤ 1000) (hk : r.kind = 3 ∨ r.kind = 4 ∨ r.kind = 5) (hln : f.ln = false) (hne : f.legs ≠ []) (hq : Qjl f r = some q) :
  Ret lb Qaq [flcv f, rvcv r] (flcv (QaE r f q)) := by
 refine .top rfl (Evt.imp2 (Evt.ge (f.legs.length + 1)) (Qjq lb f.fr f.to f.days r.fr r.to r.days) fun n hn h => ?_)
 have hq' : Qdk f.fr f.to f.days r.fr r.to r.days = some q := hq
 rw [hq'] at h
 rw [Ql3]
 refine stO _ h (stO _ rfl (stO _ rfl (stO _ rfl (stO _ rfl (stO _ rfl (stC rfl (stO _ rfl (stO _ rfl (stO _ rfl ?_)))))))))
 by_cases h5 : r.kind = 5
 ·refine stT (beqT h5) ?_
  unfold QaE; rw [if_pos h5]
 ·refine stF (beqF h5) (stF hln (stC ?_ (stC (Qce (by simp; omega) (by omega)) (stF ?_ ?_))))
  ·simp [lgcv]
  ·simpa using hne
  ·have := Qpe lb n f r hl (by omega) (optP (some q)) (.agg (pcv3 q)) (.bool true) (.int .i64 q.1) (.int .i64 q.2.1) (.int .i64 q.2.2) f.legs [] n rfl (by omega)
   unfold QaE; rw [if_neg h5]
   have hem : f.legs.isEmpty = false := by simpa using hne
   simp only [hem]
   exact this
end Go.Proofs
