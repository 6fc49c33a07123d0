/- Chapter 10 on plain data: the canonical period of a list of days, by the program and by its reference. Conditions: as each says. -/
import Derived.Test.YtdcpdknginpohaaGreatDoorKB
import Derived.Test.YtdcpdknginpohaaGreatDoorGt
import Derived.Test.YtdcpdknginpohaaGreatDoorVa
import Derived.Test.YtdcpdknginpohaaGreatDoorVb
import Derived.Test.YtdcpdknginpohaaGreatDoorVc
set_option linter.unusedSimpArgs false
set_option linter.unusedVariables false
namespace Go.Proofs
open Go.Am
variable (lb : Nat)
def orB (acc : Int) (w : Nat) : Int := if acc / 2 ^ w % 2 == 0 then acc + 2 ^ w else acc
def Qde : Int → List Int → Int
 | acc, [] => acc
 | acc, d :: l => Qde (orB acc (Qa9 d).toNat) l
abbrev P3 := Int × Int × Int
def pcv3 (x : P3) : List CV := [.int .i64 x.1, .int .i64 x.2.1, .int .i64 x.2.2]
def ofF (l : List Int) : Option P3 :=
 match l with
 | [] => none
 | a :: r => some (a, (a :: r).getLast?.getD 0, Qde 0 (a :: r))
def optP (o : Option P3) : CV := match o with
 | some x => .tup [.agg (pcv3 x), .bool true]
 | none => .tup [.agg [.int .i64 0, .int .i64 0, .int .i64 0], .bool false]
theorem Qzr : ∀ (d : Fin 128) (w : Fin 7), IntKind.wrap .i64 ((BitVec.ofInt 64 ((d.val : Nat) : Int) ||| BitVec.ofInt 64 (IntKind.wrap .i64 (1 * 2 ^ (min ((w.val : Nat) : Int).toNat 64)))).toNat) = orB ((d.val : Nat) : Int) w.val := by decide +kernel
theorem Qyt : ∀ (d : Fin 128) (w : Fin 7), 0 ≤ orB ((d.val : Nat) : Int) w.val ∧ orB ((d.val : Nat) : Int) w.val < 128 := by decide +kernel
theorem Qz3 : ∀ (d : Fin 128) (w : Fin 7), (Int.tmod (IntKind.wrap .i64 (Int.tdiv ((d.val : Nat) : Int) (2 ^ w.val))) 2 == 0) = (((d.val : Nat) : Int) / 2 ^ w.val % 2 == 0) := by decide +kernel
theorem QxE {acc day : Int} (h0 : 0 ≤ acc ∧ acc < 128) (h : 0 ≤ day) : IntKind.wrap .i64 ((BitVec.ofInt 64 acc ||| BitVec.ofInt 64 (IntKind.wrap .i64 (1 * 2 ^ (min (Qa9 day).toNat 64)))).toNat) = orB acc (Qa9 day).toNat := by
 obtain ⟨h1, h2⟩ := Qdm h
 obtain ⟨d, rfl⟩ := Int.eq_ofNat_of_zero_le h0.1
 obtain ⟨w, hw⟩ := Int.eq_ofNat_of_zero_le h1
 rw [hw]
 exact Qzr ⟨d, by omega⟩ ⟨w, by omega⟩
theorem QxT {acc day : Int} (h0 : 0 ≤ acc ∧ acc < 128) (h : 0 ≤ day) : 0 ≤ orB acc (Qa9 day).toNat ∧ orB acc (Qa9 day).toNat < 128 := by
 obtain ⟨h1, h2⟩ := Qdm h
 obtain ⟨d, rfl⟩ := Int.eq_ofNat_of_zero_le h0.1
 obtain ⟨w, hw⟩ := Int.eq_ofNat_of_zero_le h1
 rw [hw]
 exact Qyt ⟨d, by omega⟩ ⟨w, by omega⟩
theorem Qzd {acc day : Int} (h0 : 0 ≤ acc ∧ acc < 128) (h : 0 ≤ day) : (Int.tmod (IntKind.wrap .i64 (Int.tdiv acc (2 ^ (Qa9 day).toNat))) 2 == 0) = (acc / 2 ^ (Qa9 day).toNat % 2 == 0) := by
 obtain ⟨h1, h2⟩ := Qdm h
 obtain ⟨d, rfl⟩ := Int.eq_ofNat_of_zero_le h0.1
 obtain ⟨w, hw⟩ := Int.eq_ofNat_of_zero_le h1
 rw [hw]
 exact Qz3 ⟨d, by omega⟩ ⟨w, by omega⟩
theorem Qx2 {day : Int} (h : 0 ≤ day) : (1 : Int) ≤ 2 ^ (Qa9 day).toNat ∧ (2 : Int) ^ (Qa9 day).toNat ≤ 64 := by
 obtain ⟨h1, h2⟩ := Qdm h
 have : ∀ q : Fin 7, (1 : Int) ≤ 2 ^ q.val ∧ (2 : Int) ^ q.val ≤ 64 := by decide
 exact this ⟨(Qa9 day).toNat, by omega⟩
theorem QmQ : ∀ (a : List Int) (acc : Int) (b : List Int), Qde acc (a ++ b) = Qde (Qde acc a) b
 | [], _, _ => rfl
 | d :: a, acc, b => by simp only [List.cons_append, Qde]; exact QmQ a _ b
theorem QhW : ∀ (l : List Int) (acc : Int), (∀ d ∈ l, 0 ≤ d) → 0 ≤ acc ∧ acc < 128 → 0 ≤ Qde acc l ∧ Qde acc l < 128
 | [], acc, _, h => h
 | d :: l, acc, hd, h => by
  simp only [Qde]
  exact QhW l _ (fun x hx => hd x (by simp [hx])) (QxT h (hd d (by simp)))
def QtA (l : List Int) : Int := l.head?.getD 0
def Qn4 (l : List Int) : Int := l.getLast?.getD 0
theorem Qp3 (l : List Int) (x : Int) : Qn4 (l ++ [x]) = x := by simp [Qn4]
theorem QwR (l : List Int) (x : Int) (h : l.isEmpty = false) : QtA (l ++ [x]) = QtA l := by
 cases l with
 | nil => cases h
 | cons a l => rfl
theorem Qst (l : List Int) : optP (ofF l) = .tup [.agg [.int .i64 (QtA l), .int .i64 (Qn4 l), .int .i64 (Qde 0 l)], .bool (!l.isEmpty)] := by
 cases l with
 | nil => rfl
 | cons a r => rfl
theorem Qfe {l p t : List Int} {x : Int} (h : p ++ x :: t = l) : (dcv l)[p.length]? = some [.int .i64 x] := by rw [← h]; simp [dcv]
theorem QoW (fr to days : Int) (l : List Int) (hd : ∀ d ∈ l, 0 ≤ d) : ∀ (t p : List Int), p ++ t = l →
  Evt fun n => ∀ k, t.length < k → period_Normal_L1 lb n k fr to days (dcv l) p.length (.int .i64 (QtA p)) (.int .i64 (Qn4 p)) (Qde 0 p) (!p.isEmpty) = some (optP (ofF l))
 | [], p, h => by
  have : p = l := by simpa using h
  subst this
  refine .all fun n k hk => ?_
  obtain ⟨k, rfl⟩ : ∃ m, k = m + 1 := ⟨k - 1, by simp at hk; omega⟩
  rw [QgI]
  refine stF (decF (by simp [dcv])) ?_
  rw [Qmu, Qst]
 | x :: t, p, h => by
  have hx : 0 ≤ x := hd x (by rw [← h]; simp)
  have hp : ∀ d ∈ p, 0 ≤ d := fun d hm => hd d (by rw [← h]; simp [hm])
  obtain ⟨w1, w2⟩ := Qdm hx
  refine Evt.imp2 (QlE lb x) (QoW fr to days l hd t (p ++ [x]) (by rw [← h]; simp)) fun n hw hi k hk => ?_
  obtain ⟨k, rfl⟩ : ∃ m, k = m + 1 := ⟨k - 1, by simp at hk; omega⟩
  have hi := hi k (by simp at hk; omega)
  rw [Qp3, QmQ, List.length_append, List.length_singleton] at hi
  simp only [Qde] at hi
  have hne : (!(p ++ [x]).isEmpty) = true := by simp
  rw [hne] at hi
  rw [QgI]
  refine stT (decT (by rw [← h]; simp [dcv])) (stO _ (Qfe h) (stO (.int .i64 x) rfl ?_))
  cases hpe : p.isEmpty with
  | true =>
   have : p = [] := by simpa using hpe
   subst this
   refine stT rfl (stC rfl (stC rfl (stO _ hw (stO _ (QaB ..) (stC (decT w1) ?_)))))
   rw [QxE (QhW [] 0 (by simp) (by decide)) hx]
   exact hi
  | false =>
   refine stF rfl (stC rfl (stO _ hw (stO _ (QaB ..) (stC (decT w1) ?_))))
   rw [QxE (QhW p 0 hp (by decide)) hx]
   rw [QwR p x hpe] at hi
   exact hi
theorem Qg5 (fr to days : Int) : ∀ d ∈ Qat fr to days, 0 ≤ d := fun d hd => (QeL hd).1
theorem QiJ (fr to days : Int) : Ret lb Qbf [.agg [.int .i64 fr, .int .i64 to, .int .i64 days]] (optP (ofF (Qat fr to days))) := by
 refine .top rfl (.eq (fun n => by rw [QpD]) ?_)
 have := Evt.diag (QoW lb fr to days (Qat fr to days) (Qg5 fr to days) (Qat fr to days) [] rfl)
 refine this.mono fun n hn => ?_
 exact stO (dcv (Qat fr to days)) rfl (stC (by simp [dcv]) hn)
theorem QvY (an : Bool) (l : List Int) (hl : l.length ≤ 100000) (hd : ∀ d ∈ l, 0 ≤ d) (c3 c5 : List CV) (x4 x6 : Int) : ∀ (t p : List Int), p ++ t = l →
  Evt fun n => ∀ k, t.length < k → Qig lb n k an (dcv l) c3 (.int .i64 x4) c5 (.int .i64 x6) (p.length : Int) (Qde 0 p) = some (.tup [.agg [.int .i64 x4, .int .i64 x6, .int .i64 (Qde 0 l)], .bool true])
 | [], p, h => by
  have : p = l := by simpa using h
  subst this
  refine .all fun n k hk => ?_
  obtain ⟨k, rfl⟩ : ∃ m, k = m + 1 := ⟨k - 1, by simp at hk; omega⟩
  rw [Qll]
  refine stF (decF (by simp [dcv])) ?_
  rw [Qt7]
 | x :: t, p, h => by
  have hx : 0 ≤ x := hd x (by rw [← h]; simp)
  have hp : ∀ d ∈ p, 0 ≤ d := fun d hm => hd d (by rw [← h]; simp [hm])
  have hlen : l.length = p.length + (t.length + 1) := by rw [← h]; simp
  obtain ⟨p1, p2⟩ := Qx2 hx
  have hr := QhW p 0 hp (by decide)
  have hw1 : IntKind.wrap .i64 ((p.length : Int) + 1) = ((p ++ [x]).length : Int) := by rw [Qaz (by omega) (by omega)]; simp
  refine Evt.imp2 (Qoz lb x hx) (QvY an l hl hd c3 c5 x4 x6 t (p ++ [x]) (by rw [← h]; simp)) fun n hw hi k hk => ?_
  obtain ⟨k, rfl⟩ : ∃ m, k = m + 1 := ⟨k - 1, by simp at hk; omega⟩
  have hi := hi k (by simp at hk; omega)
  rw [QmQ] at hi
  simp only [Qde] at hi
  rw [Qll]
  refine stT (decT (by simp [dcv]; omega)) (stO _ (QaG (Qfe h)) (stC rfl (stO _ rfl (stO _ hw (stO _ (QaB ..) (stC (bneT (by omega)) ?_))))))
  rw [Qzd hr hx]
  cases hb : (Qde 0 p / 2 ^ (Qa9 x).toNat % 2 == 0) with
  | true =>
   have hor : orB (Qde 0 p) (Qa9 x).toNat = Qde 0 p + 2 ^ (Qa9 x).toNat := by simp [orB, hb]
   refine stT rfl (stO _ (QaG (Qfe h)) (stC rfl (stO _ rfl (stO _ hw (stO _ (QaB ..) ?_)))))
   rw [hw1, Qaz (x := Qde 0 p + _) (by omega) (by omega), ← hor]
   exact hi
  | false =>
   have hor : orB (Qde 0 p) (Qa9 x).toNat = Qde 0 p := by simp [orB, hb]
   refine stF rfl ?_
   rw [hw1]
   rw [hor] at hi
   exact hi
theorem Qqc (an : Bool) (l : List Int) (hl : l.length ≤ 100000) (hd : ∀ d ∈ l, 0 ≤ d) : Ret lb Qdc [.list an (dcv l)] (optP (ofF l)) := by
 refine .top rfl (.eq (fun n => by rw [Qxv]) ?_)
 cases l with
 | nil => exact .of rfl
 | cons a r =>
  have hs : (a :: r).getLast?.getD 0 = Qn4 (a :: r) := rfl
  obtain ⟨q, z, hq⟩ : ∃ q z, a :: r = q ++ [z] := by
   rcases Qhc (a :: r) with h | ⟨q, z, h⟩
   ·cases h
   ·exact ⟨q, z, h⟩
  have hz : Qn4 (a :: r) = z := by rw [hq, Qp3]
  have hql : (a :: r).length = q.length + 1 := by rw [hq]; simp
  have := Evt.diag (QvY lb an (a :: r) hl hd [.int .i64 a] [.int .i64 z] a z (a :: r) [] rfl)
  refine this.mono fun n hn => ?_
  refine stF (beqF (by simp [dcv]; omega)) (stO _ (QaG (i := 0) rfl) (stC rfl (stO _ rfl (stO [.int .i64 z] ?_ (stC rfl (stO _ rfl (stC rfl (stC rfl ?_))))))))
  ·have e : IntKind.wrap .i64 (((dcv (a :: r)).length : Int) - 1) = (q.length : Int) := by
    have : (dcv (a :: r)).length = q.length + 1 := by simp only [dcv, List.length_map]; exact hql
    rw [this, Qaz (by omega) (by omega)]; omega
   rw [e]
   exact QaG (Qfe (t := []) hq.symm)
  ·rw [Qst, hz]
   exact hn
end Go.Proofs
set_option linter.unusedSimpArgs false
set_option linter.unusedVariables false
namespace Go.Proofs
open Go.Am
variable (lb : Nat)
abbrev Asc (l : List Int) : Prop := l.Pairwise (· < ·)
theorem Asc.ext : ∀ {a b : List Int}, Asc a → Asc b → (∀ x, x ∈ a ↔ x ∈ b) → a = b
 | [], [], _, _, _ => rfl
 | [], y :: b, _, _, h => by have := (h y).2 (by simp); cases this
 | x :: a, [], _, _, h => by have := (h x).1 (by simp); cases this
 | x :: a, y :: b, ha, hb, h => by
  have h1 := List.pairwise_cons.1 ha
  have h2 := List.pairwise_cons.1 hb
  have hxy : x = y := by
   have e1 := (h x).1 (by simp)
   have e2 := (h y).2 (by simp)
   simp only [List.mem_cons] at e1 e2
   rcases e1 with e1 | e1
   ·exact e1
   ·rcases e2 with e2 | e2
    ·exact e2.symm
    ·have := h1.1 y e2
     have := h2.1 x e1
     omega
  subst hxy
  congr 1
  refine Asc.ext h1.2 h2.2 fun z => ⟨fun hz => ?_, fun hz => ?_⟩
  ·have := (h z).1 (by simp [hz])
   simp only [List.mem_cons] at this
   rcases this with rfl | this
   ·have := h1.1 z hz; omega
   ·exact this
  ·have := (h z).2 (by simp [hz])
   simp only [List.mem_cons] at this
   rcases this with rfl | this
   ·have := h2.1 z hz; omega
   ·exact this
theorem Asc.filter {l : List Int} (h : Asc l) (p : Int → Bool) : Asc (l.filter p) := h.sublist List.filter_sublist
theorem QtT (fr days : Int) : ∀ k, Asc (upto fr days k)
 | 0 => List.Pairwise.nil
 | k + 1 => by
  simp only [upto]
  refine List.pairwise_append.2 ⟨QtT fr days k, by split <;> simp, fun a ha b hb => ?_⟩
  have h1 := QpC ha
  split at hb
  ·simp at hb; omega
  ·cases hb
theorem Qj8 (fr to days : Int) : Asc (Qat fr to days) := by
 unfold Qat
 split
 ·exact QtT _ _ _
 ·exact List.Pairwise.nil
theorem Qui {fr days d : Int} : ∀ {k : Nat}, d ∈ upto fr days k ↔ fr ≤ d ∧ d < fr + k ∧ onF days d = true
 | 0 => by simp [upto]; omega
 | k + 1 => by
  simp only [upto, List.mem_append, Qui (k := k)]
  by_cases ho : onF days (fr + k) = true
  ·rw [if_pos ho]
   simp only [List.mem_singleton]
   constructor
   ·rintro (⟨h1, h2, h3⟩ | rfl)
    ·exact ⟨h1, by omega, h3⟩
    ·exact ⟨by omega, by omega, ho⟩
   ·rintro ⟨h1, h2, h3⟩
    by_cases e : d = fr + k
    ·exact .inr e
    ·exact .inl ⟨h1, by omega, h3⟩
  ·rw [if_neg ho]
   simp only [List.not_mem_nil, or_false]
   constructor
   ·rintro ⟨h1, h2, h3⟩; exact ⟨h1, by omega, h3⟩
   ·rintro ⟨h1, h2, h3⟩
    have : d ≠ fr + k := fun e => ho (by rw [← e]; exact h3)
    exact ⟨h1, by omega, h3⟩
theorem Qeh (fr to days d : Int) : hasF fr to days d = true ↔ perE fr to days = 0 ∧ fr ≤ d ∧ d ≤ to ∧ onF days d = true := by
 unfold hasF
 simp only [Bool.and_eq_true, decide_eq_true_eq]
theorem QgC {fr to days d : Int} : d ∈ Qat fr to days ↔ hasF fr to days d = true := by
 rw [Qeh]
 unfold Qat
 by_cases h : perE fr to days = 0
 ·rw [if_pos h, Qui]
  have := Qe8 h
  constructor
  ·rintro ⟨h1, h2, h3⟩; exact ⟨h, h1, by omega, h3⟩
  ·rintro ⟨_, h1, h2, h3⟩; exact ⟨h1, by omega, h3⟩
 ·rw [if_neg h]
  simp [h]
def andD (a b : Int) : Int := IntKind.wrap .i64 ((BitVec.ofInt 64 a &&& BitVec.ofInt 64 b).toNat)
def notD (b : Int) : Int := IntKind.wrap .i64 ((BitVec.ofInt 64 127 &&& ~~~BitVec.ofInt 64 b).toNat)
theorem Qso : ∀ (a b : Nat), a < 128 → b < 128 → a &&& b < 128 := fun a b ha _ => Nat.lt_of_le_of_lt Nat.and_le_left ha
theorem Qus {a b : Nat} (ha : a < 128) (hb : b < 128) : andD a b = ((a &&& b : Nat) : Int) := by
 unfold andD
 have e : ∀ n : Nat, BitVec.ofInt 64 (n : Int) = BitVec.ofNat 64 n := fun n => by simp
 rw [e, e]
 have h := Qso a b ha hb
 have : (BitVec.ofNat 64 a &&& BitVec.ofNat 64 b).toNat = a &&& b := by
  rw [BitVec.toNat_and, BitVec.toNat_ofNat, BitVec.toNat_ofNat, Nat.mod_eq_of_lt (by omega), Nat.mod_eq_of_lt (by omega)]
 rw [this, Qaz (by omega) (by omega)]
theorem QrY (a : Nat) (d : Int) : onF a d = a.testBit (Qa9 d).toNat := by
 unfold onF
 rw [Nat.testBit_eq_decide_div_mod_eq]
 have : ((a : Int) / 2 ^ (Qa9 d).toNat % 2) = ((a / 2 ^ (Qa9 d).toNat % 2 : Nat) : Int) := by
  rw [Int.natCast_emod, Int.natCast_ediv]
  simp
 rw [this]
 by_cases h : a / 2 ^ (Qa9 d).toNat % 2 = 1
 ·rw [h]; rfl
 ·rw [decide_eq_false h]
  simp; omega
theorem Qwm {a b : Int} (ha : 0 ≤ a ∧ a < 128) (hb : 0 ≤ b ∧ b < 128) : 0 ≤ andD a b ∧ andD a b < 128 := by
 obtain ⟨a, rfl⟩ := Int.eq_ofNat_of_zero_le ha.1
 obtain ⟨b, rfl⟩ := Int.eq_ofNat_of_zero_le hb.1
 rw [Qus (by omega) (by omega)]
 have := Qso a b (by omega) (by omega)
 omega
theorem Qv6 {a b : Int} (ha : 0 ≤ a ∧ a < 128) (hb : 0 ≤ b ∧ b < 128) (d : Int) : onF (andD a b) d = (onF a d && onF b d) := by
 obtain ⟨a, rfl⟩ := Int.eq_ofNat_of_zero_le ha.1
 obtain ⟨b, rfl⟩ := Int.eq_ofNat_of_zero_le hb.1
 rw [Qus (by omega) (by omega), QrY, QrY, QrY, Nat.testBit_and]
theorem Qzf (d : Int) : onF 0 d = false := by unfold onF; simp
theorem QAg : ∀ w : Fin 7, ((127 : Int) / 2 ^ w.val % 2 == 1) = true := by decide
theorem Qv0 {d : Int} (h : 0 ≤ d) : onF 127 d = true := by
 obtain ⟨h1, h2⟩ := Qdm h
 exact QAg ⟨(Qa9 d).toNat, by omega⟩
theorem QxS : ∀ b : Fin 128, 0 ≤ notD ((b.val : Nat) : Int) ∧ notD ((b.val : Nat) : Int) < 128 := by decide +kernel
theorem QzZ : ∀ (b : Fin 128) (w : Fin 7), (notD ((b.val : Nat) : Int) / 2 ^ w.val % 2 == 1) = !(((b.val : Nat) : Int) / 2 ^ w.val % 2 == 1) := by decide +kernel
theorem Qw6 {b : Int} (hb : 0 ≤ b ∧ b < 128) : 0 ≤ notD b ∧ notD b < 128 := by
 obtain ⟨b, rfl⟩ := Int.eq_ofNat_of_zero_le hb.1
 exact QxS ⟨b, by omega⟩
theorem Qzx {b d : Int} (hb : 0 ≤ b ∧ b < 128) (h : 0 ≤ d) : onF (notD b) d = !onF b d := by
 obtain ⟨h1, h2⟩ := Qdm h
 obtain ⟨b, rfl⟩ := Int.eq_ofNat_of_zero_le hb.1
 exact QzZ ⟨b, by omega⟩ ⟨(Qa9 d).toNat, by omega⟩
def maxP (a b : Int) : Int := if b > a then b else a
def minP (a b : Int) : Int := if b < a then b else a
theorem Qp4 {fr to days f t D x : Int} (h0 : perE fr to days = 0) (hD : 0 ≤ D ∧ D < 128) :
  x ∈ Qat (maxP fr f) (minP to t) (andD days D) ↔ hasF fr to days x = true ∧ f ≤ x ∧ x ≤ t ∧ onF D x = true := by
 obtain ⟨a0, a1, a2, a3, a4, a5⟩ := Qe8 h0
 have hr := Qwm (a := days) (b := D) (by omega) hD
 rw [QgC, Qeh, Qeh, Qv6 (by omega) hD, Bool.and_eq_true]
 have hm1 : maxP fr f ≤ x ↔ fr ≤ x ∧ f ≤ x := by unfold maxP; split <;> omega
 have hm2 : x ≤ minP to t ↔ x ≤ to ∧ x ≤ t := by unfold minP; split <;> omega
 rw [hm1, hm2]
 constructor
 ·rintro ⟨_, ⟨h1, h2⟩, ⟨h3, h4⟩, h5, h6⟩
  exact ⟨⟨h0, h1, h3, h5⟩, h2, h4, h6⟩
 ·rintro ⟨⟨_, h1, h3, h5⟩, h2, h4, h6⟩
  refine ⟨?_, ⟨h1, h2⟩, ⟨h3, h4⟩, h5, h6⟩
  have hne : andD days D ≠ 0 := fun e => by
   have := Qv6 (a := days) (b := D) (by omega) hD x
   rw [e, Qzf, h5, h6] at this
   cases this
  have q1 : maxP fr f ≤ x := hm1.2 ⟨h1, h2⟩
  have q2 : x ≤ minP to t := hm2.2 ⟨h3, h4⟩
  have q3 : fr ≤ maxP fr f := by unfold maxP; split <;> omega
  have q4 : minP to t ≤ to := by unfold minP; split <;> omega
  unfold perE
  rw [if_neg (by omega), if_neg (by omega), if_neg (by omega)]
def Qd0 (fr to days f t D : Int) : Option P3 := ofF (Qat (maxP fr f) (minP to t) (andD days D))
theorem Qeq (fr to days f t D : Int) : Ret lb Qbq [.agg [.int .i64 fr, .int .i64 to, .int .i64 days], .int .i64 f, .int .i64 t, .int .i64 D] (optP (Qd0 fr to days f t D)) := by
 refine .top rfl (.eq (fun n => by rw [Qpz]) ?_)
 refine (QiJ lb (maxP fr f) (minP to t) (andD days D)).mono fun n hn => ?_
 unfold Qd0
 cases hc : ofF (Qat (maxP fr f) (minP to t) (andD days D)) with
 | none => rw [hc] at hn; exact stO _ hn rfl
 | some x => rw [hc] at hn; exact stO _ hn rfl
def Qlt (fr to days fr' to' days' : Int) : List Int := (Qat fr to days).filter fun d => hasF fr' to' days' d
def Qd4 (fr to days fr' to' days' : Int) : Option P3 := ofF (Qlt fr to days fr' to' days')
theorem Qzm {fr to days : Int} (h : perE fr to days ≠ 0) (d : Int) : hasF fr to days d = false := by
 unfold hasF; rw [decF h]; rfl
theorem QpM {fr to days : Int} (h : perE fr to days ≠ 0) : Qat fr to days = [] := by unfold Qat; rw [if_neg h]
theorem Qj1 (fr to days fr' to' days' : Int) : Ret lb Qgr [.agg [.int .i64 fr, .int .i64 to, .int .i64 days], .agg [.int .i64 fr', .int .i64 to', .int .i64 days']] (optP (Qd4 fr to days fr' to' days')) := by
 refine .top rfl (.eq (fun n => by rw [Qrq]) ?_)
 refine (QbY lb fr to days).and ((QbY lb fr' to' days').and (Qeq lb fr to days fr' to' days')) |>.mono fun n ⟨h1, h2, h3⟩ => ?_
 refine stO _ h1 (stO _ (QaB ..) ?_)
 by_cases ha : perE fr to days = 0
 ·refine stF (bneF ha) (stO _ h2 (stO _ (QaB ..) ?_))
  by_cases hb : perE fr' to' days' = 0
  ·refine stF (bneF hb) ?_
   have e : Qd0 fr to days fr' to' days' = Qd4 fr to days fr' to' days' := by
    unfold Qd0 Qd4 Qlt
    congr 1
    obtain ⟨b0, b1, b2, b3, b4, b5⟩ := Qe8 hb
    refine Asc.ext (Qj8 _ _ _) ((Qj8 _ _ _).filter _) fun x => ?_
    rw [Qp4 ha (by omega), List.mem_filter, QgC, Qeh fr' to' days']
    constructor
    ·rintro ⟨q1, q2, q3, q4⟩; exact ⟨q1, hb, q2, q3, q4⟩
    ·rintro ⟨q1, _, q2, q3, q4⟩; exact ⟨q1, q2, q3, q4⟩
   rw [e] at h3
   refine stO _ h3 ?_
   cases Qd4 fr to days fr' to' days' with
   | none => rfl
   | some x => rfl
  ·refine stT (bneT hb) ?_
   have : Qd4 fr to days fr' to' days' = none := by
    unfold Qd4 Qlt
    rw [List.filter_eq_nil_iff.2 fun d _ => by rw [Qzm hb]; simp]
    rfl
   rw [this]; rfl
 ·refine stT (bneT ha) ?_
  have : Qd4 fr to days fr' to' days' = none := by
   unfold Qd4 Qlt
   rw [QpM ha]
   rfl
  rw [this]; rfl
theorem Qsu (fr to days fr' to' days' : Int) (l : List Int) (hl : l.length ≤ 1000) (b0 : Bool) : ∀ (t p : List Int), p ++ t = l →
  Evt fun n => ∀ k, t.length < k → Qgg lb n k fr to days fr' to' days' (.list b0 (dcv l)) (p.filter fun d => hasF fr' to' days' d).isEmpty (dcv (p.filter fun d => hasF fr' to' days' d)) (p.length : Int) =
   Qkq lb n fr to days fr' to' days' (.list b0 (dcv l)) (l.filter fun d => hasF fr' to' days' d).isEmpty (dcv (l.filter fun d => hasF fr' to' days' d)) (l.length : Int)
 | [], p, h => by
  have : p = l := by simpa using h
  subst this
  refine .all fun n k hk => ?_
  obtain ⟨k, rfl⟩ : ∃ m, k = m + 1 := ⟨k - 1, by simp at hk; omega⟩
  rw [Qjg]
  exact stO _ (Qa0 ..) (stF (decF (by simp [dcv])) rfl)
 | x :: t, p, h => by
  have hlen : l.length = p.length + (t.length + 1) := by rw [← h]; simp
  have hw1 : IntKind.wrap .i64 ((p.length : Int) + 1) = ((p ++ [x]).length : Int) := by rw [Qaz (by omega) (by omega)]; simp
  refine Evt.imp2 (Qkv lb fr' to' days' x) (Qsu fr to days fr' to' days' l hl b0 t (p ++ [x]) (by rw [← h]; simp)) fun n hw hi k hk => ?_
  obtain ⟨k, rfl⟩ : ∃ m, k = m + 1 := ⟨k - 1, by simp at hk; omega⟩
  have hi := hi k (by simp at hk; omega)
  rw [Qjg]
  refine stO _ (Qa0 ..) (stT (decT (by simp [dcv]; omega)) (stO _ (Qa0 ..) (stO _ (QaG (Qfe h)) (stC rfl (stO _ rfl (stO _ hw (stO _ (QaL _) ?_)))))))
  rw [List.filter_append] at hi
  cases hh : hasF fr' to' days' x with
  | true =>
   have e : [x].filter (fun d => hasF fr' to' days' d) = [x] := by simp [hh]
   rw [e] at hi
   refine stT rfl (stO _ (Qa0 ..) (stO _ (QaG (Qfe h)) (stC rfl (stO _ rfl (stC rfl (stC (Qa8 ?_ (by omega)) ?_))))))
   ·have := List.length_filter_le (fun d => hasF fr' to' days' d) p
    simp [dcv]; omega
   ·rw [hw1, Qbr (p.filter fun d => hasF fr' to' days' d) x]
    simpa [dcv] using hi
  | false =>
   have e : [x].filter (fun d => hasF fr' to' days' d) = [] := by simp [hh]
   rw [e, List.append_nil] at hi
   exact stF rfl (by rw [hw1]; exact hi)
theorem Qp7 (l : List Int) (p : Int → Bool) (h : l.length ≤ 800) : (l.filter p).length ≤ 100000 := by
 have := List.length_filter_le p l
 omega
theorem QjH (fr to days fr' to' days' : Int) : Ret lb Qb6 [.agg [.int .i64 fr, .int .i64 to, .int .i64 days], .agg [.int .i64 fr', .int .i64 to', .int .i64 days']] (optP (Qd4 fr to days fr' to' days')) := by
 refine .top rfl (.eq (fun n => by rw [Qvd]) ?_)
 have hl := Qh9 fr to days
 have h1 := Evt.diag (Qsu lb fr to days fr' to' days' (Qat fr to days) (by omega) (Qat fr to days).isEmpty (Qat fr to days) [] rfl)
 have h2 := Qqc lb (Qlt fr to days fr' to' days').isEmpty (Qlt fr to days fr' to' days') (Qp7 _ _ hl) (fun d hd => Qg5 fr to days d (List.mem_filter.1 hd).1)
 refine (Qji lb fr to days).and (Evt.and h1 h2) |>.mono fun n ⟨q1, q2, q3⟩ => ?_
 refine stO _ q1 (q2.trans ?_)
 rw [QrU]
 refine stO _ q3 ?_
 unfold Qd4
 cases ofF (Qlt fr to days fr' to' days') with
 | none => rfl
 | some x => rfl
end Go.Proofs
set_option linter.unusedSimpArgs false
set_option linter.unusedVariables false
namespace Go.Proofs
open Go.Am
variable (lb : Nat)
def QbL (f t fr to days d : Int) : Bool := decide (d ≥ f) && (decide (d ≤ t) && !hasF fr to days d)
theorem Qr9 (l : List Int) (hl : l.length ≤ 1000) (b0 : Bool) (f t fr to days : Int) : ∀ (r p : List Int), p ++ r = l →
  Evt fun n => ∀ k, r.length < k → QdL lb n k b0 (dcv l) f t fr to days (p.filter (QbL f t fr to days)).isEmpty (dcv (p.filter (QbL f t fr to days))) (p.length : Int) =
   some (.list (l.filter (QbL f t fr to days)).isEmpty (dcv (l.filter (QbL f t fr to days))))
 | [], p, h => by
  have : p = l := by simpa using h
  subst this
  refine .all fun n k hk => ?_
  obtain ⟨k, rfl⟩ : ∃ m, k = m + 1 := ⟨k - 1, by simp at hk; omega⟩
  rw [Qja]
  exact stF (decF (by simp [dcv])) (by rw [Qrz])
 | x :: r, p, h => by
  have hlen : l.length = p.length + (r.length + 1) := by rw [← h]; simp
  have hw1 : IntKind.wrap .i64 ((p.length : Int) + 1) = ((p ++ [x]).length : Int) := by rw [Qaz (by omega) (by omega)]; simp
  refine Evt.imp2 (Qkv lb fr to days x) (Qr9 l hl b0 f t fr to days r (p ++ [x]) (by rw [← h]; simp)) fun n hw hi k hk => ?_
  obtain ⟨k, rfl⟩ : ∃ m, k = m + 1 := ⟨k - 1, by simp at hk; omega⟩
  have hi := hi k (by simp at hk; omega)
  rw [List.filter_append] at hi
  have no : QbL f t fr to days x = false → QdL lb n k b0 (dcv l) f t fr to days (p.filter (QbL f t fr to days)).isEmpty (dcv (p.filter (QbL f t fr to days))) (IntKind.wrap .i64 ((p.length : Int) + 1)) =
    some (.list (l.filter (QbL f t fr to days)).isEmpty (dcv (l.filter (QbL f t fr to days)))) := fun hp => by
   have e : [x].filter (QbL f t fr to days) = [] := by simp [hp]
   rw [e, List.append_nil] at hi
   rw [hw1]; exact hi
  rw [Qja]
  refine stT (decT (by simp [dcv]; omega)) (stO _ (QaG (Qfe h)) (stC rfl (stO _ rfl (stO _ (QaB ..) ?_))))
  by_cases h1 : x ≥ f
  ·refine stT (decT h1) (stO _ (QaG (Qfe h)) (stC rfl (stO _ rfl (stO _ (QaB ..) ?_))))
   by_cases h2 : x ≤ t
   ·refine stT (decT h2) (stO _ (QaG (Qfe h)) (stC rfl (stO _ rfl (stO _ hw (stO _ (QaL _) ?_)))))
    cases hh : hasF fr to days x with
    | true => exact stF rfl (no (by simp [QbL, hh]))
    | false =>
     have hp : QbL f t fr to days x = true := by simp [QbL, hh, h1, h2]
     have e : [x].filter (QbL f t fr to days) = [x] := by simp [hp]
     rw [e] at hi
     refine stT rfl (stO _ (QaG (Qfe h)) (stC rfl (stO _ rfl (stC rfl (stC (Qa8 ?_ (by omega)) ?_)))))
     ·have := List.length_filter_le (QbL f t fr to days) p
      simp [dcv]; omega
     ·rw [hw1, Qbr (p.filter (QbL f t fr to days)) x]
      simpa [dcv] using hi
   ·exact stF (decF h2) (no (by simp [QbL, h2]))
  ·exact stF (decF h1) (no (by simp [QbL, h1]))
theorem Qjh (b0 : Bool) (l : List Int) (hl : l.length ≤ 1000) (f t fr to days : Int) : Ret lb Qb3 [.list b0 (dcv l), .int .i64 f, .int .i64 t, .agg [.int .i64 fr, .int .i64 to, .int .i64 days]]
  (.list (l.filter (QbL f t fr to days)).isEmpty (dcv (l.filter (QbL f t fr to days)))) := by
 refine .top rfl (.eq (fun n => by rw [Qvx]) ?_)
 exact Evt.diag (Qr9 lb l hl b0 f t fr to days l [] rfl)
def Qe7 (fr to days fr' to' days' : Int) : List (List Int) :=
 if perE fr' to' days' = 0 then [(Qat fr to days).filter (QbL 0 (fr' - 1) fr' to' days'), (Qat fr to days).filter (QbL fr' to' fr' to' days'), (Qat fr to days).filter (QbL (to' + 1) 36525 fr' to' days')]
 else [Qat fr to days]
def Qcd (fr to days fr' to' days' : Int) : List P3 := (Qe7 fr to days fr' to' days').filterMap ofF
def pl3 (l : List P3) : List (List CV) := l.map pcv3
def pscv (l : List (List Int)) : List (List CV) := l.map fun x => [CV.list x.isEmpty (dcv x)]
theorem Qu5 (o : List P3) (x : P3) (b : Bool) : (b && false) = (o ++ [x]).isEmpty := by simp
theorem Qnm (fr to days fr' to' days' : Int) (r7 : CV) (l : List (List Int)) (hl : l.length ≤ 3) (hd : ∀ x ∈ l, x.length ≤ 100000 ∧ ∀ d ∈ x, 0 ≤ d) : ∀ (r p : List (List Int)), p ++ r = l →
  Evt fun n => ∀ k, r.length < k → QeA lb n k fr to days fr' to' days' r7 false (pscv l) (p.filterMap ofF).isEmpty (pl3 (p.filterMap ofF)) (p.length : Int) =
   some (.list (l.filterMap ofF).isEmpty (pl3 (l.filterMap ofF)))
 | [], p, h => by
  have : p = l := by simpa using h
  subst this
  refine .all fun n k hk => ?_
  obtain ⟨k, rfl⟩ : ∃ m, k = m + 1 := ⟨k - 1, by simp at hk; omega⟩
  rw [Qhm]
  exact stF (decF (by simp [pscv])) (by rw [Qoe])
 | x :: r, p, h => by
  have hlen : l.length = p.length + (r.length + 1) := by rw [← h]; simp
  have hw1 : IntKind.wrap .i64 ((p.length : Int) + 1) = ((p ++ [x]).length : Int) := by rw [Qaz (by omega) (by omega)]; simp
  have hx := hd x (by rw [← h]; simp)
  refine Evt.imp2 (Qqc lb x.isEmpty x hx.1 hx.2) (Qnm fr to days fr' to' days' r7 l hl hd r (p ++ [x]) (by rw [← h]; simp)) fun n hw hi k hk => ?_
  obtain ⟨k, rfl⟩ : ∃ m, k = m + 1 := ⟨k - 1, by simp at hk; omega⟩
  have hi := hi k (by simp at hk; omega)
  have hg : (pscv l)[p.length]? = some [CV.list x.isEmpty (dcv x)] := by rw [← h]; simp [pscv]
  rw [List.filterMap_append] at hi
  rw [Qhm]
  refine stT (decT (by simp [pscv]; omega)) (stO _ (QaG hg) (stC rfl (stO _ rfl (stO _ hw ?_))))
  cases ho : ofF x with
  | none =>
   have e : [x].filterMap ofF = [] := by simp [ho]
   rw [e, List.append_nil] at hi
   exact stO _ rfl (stO _ rfl (stO _ rfl (stO _ rfl (stO _ rfl (stC rfl (stO _ rfl (stO _ rfl (stO _ rfl (stO _ rfl (stF rfl (by rw [hw1]; exact hi)))))))))))
  | some y =>
   have e : [x].filterMap ofF = [y] := by simp [ho]
   rw [e] at hi
   refine stO _ rfl (stO _ rfl (stO _ rfl (stO _ rfl (stO _ rfl (stC rfl (stO _ rfl (stO _ rfl (stO _ rfl (stO _ rfl (stT rfl (stC (Qa8 ?_ (by omega)) ?_)))))))))))
   ·have := List.length_filterMap_le ofF p
    simp [pl3]; omega
   ·rw [hw1, Qu5 (p.filterMap ofF) y]
    simpa [pl3, pcv3] using hi
theorem Qsr (fr to days fr' to' days' : Int) : (Qe7 fr to days fr' to' days').length ≤ 3 ∧ ∀ x ∈ Qe7 fr to days fr' to' days', x.length ≤ 100000 ∧ ∀ d ∈ x, 0 ≤ d := by
 have hl := Qh9 fr to days
 have sub : ∀ q : Int → Bool, ((Qat fr to days).filter q).length ≤ 100000 ∧ ∀ d ∈ (Qat fr to days).filter q, 0 ≤ d := fun q =>
  ⟨Qp7 _ _ hl, fun d hd => Qg5 fr to days d (List.mem_filter.1 hd).1⟩
 unfold Qe7
 split
 ·refine ⟨by simp, fun x hx => ?_⟩
  simp only [List.mem_cons, List.not_mem_nil, or_false] at hx
  rcases hx with rfl | rfl | rfl <;> exact sub _
 ·refine ⟨by simp, fun x hx => ?_⟩
  simp only [List.mem_cons, List.not_mem_nil, or_false] at hx
  subst hx
  exact ⟨by omega, Qg5 fr to days⟩
theorem Qqm (fr to days fr' to' days' : Int) : Ret lb Qbj [.agg [.int .i64 fr, .int .i64 to, .int .i64 days], .agg [.int .i64 fr', .int .i64 to', .int .i64 days']]
  (.list (Qcd fr to days fr' to' days').isEmpty (pl3 (Qcd fr to days fr' to' days'))) := by
 refine .top rfl (.eq (fun n => by rw [Qrj]) ?_)
 obtain ⟨g1, g2⟩ := Qsr fr to days fr' to' days'
 have hl := Qh9 fr to days
 have loop := Evt.diag (Qnm lb fr to days fr' to' days' (.list (Qat fr to days).isEmpty (dcv (Qat fr to days))) _ g1 g2 _ [] rfl)
 have q1 := Qjh lb (Qat fr to days).isEmpty (Qat fr to days) (by omega) 0 (IntKind.wrap .i64 (fr' - 1)) fr' to' days'
 have q2 := Qjh lb (Qat fr to days).isEmpty (Qat fr to days) (by omega) fr' to' fr' to' days'
 have q3 := Qjh lb (Qat fr to days).isEmpty (Qat fr to days) (by omega) (IntKind.wrap .i64 (to' + 1)) 36525 fr' to' days'
 refine (Qji lb fr to days).and ((Qdx lb fr' to' days').and (Evt.and loop (q1.and (q2.and q3)))) |>.mono fun n ⟨h1, h2, h3, h4, h5, h6⟩ => ?_
 refine stO _ h1 (stC rfl (stO _ h2 (stO _ (QaB ..) ?_)))
 by_cases hb : perE fr' to' days' = 0
 ·obtain ⟨b0, b1, b2, b3, b4, b5⟩ := Qe8 hb
  have w1 : IntKind.wrap .i64 (fr' - 1) = fr' - 1 := Qaz (by omega) (by omega)
  have w2 : IntKind.wrap .i64 (to' + 1) = to' + 1 := Qaz (by omega) (by omega)
  rw [w1] at h4
  rw [w2] at h6
  refine stT (beqT hb) ?_
  rw [w1, w2]
  refine stO _ h4 (stO _ h5 (stO _ h6 (stC rfl (stC rfl (stC rfl ?_)))))
  rw [QiE]
  unfold Qe7 at h3
  rw [if_pos hb] at h3
  unfold Qcd Qe7
  rw [if_pos hb]
  exact h3
 ·refine stF (beqF hb) ?_
  rw [QiE]
  unfold Qe7 at h3
  rw [if_neg hb] at h3
  unfold Qcd Qe7
  rw [if_neg hb]
  exact h3
theorem Qkr {fr to days f t D : Int} (q : Int → Bool) (h0 : perE fr to days = 0) (hD : 0 ≤ D ∧ D < 128) (hq : ∀ x, hasF fr to days x = true → ((f ≤ x ∧ x ≤ t ∧ onF D x = true) ↔ q x = true)) :
  Qd0 fr to days f t D = ofF ((Qat fr to days).filter q) := by
 unfold Qd0
 congr 1
 refine Asc.ext (Qj8 _ _ _) ((Qj8 _ _ _).filter _) fun x => ?_
 rw [Qp4 h0 hD, List.mem_filter, QgC]
 constructor
 ·rintro ⟨h1, h2⟩; exact ⟨h1, (hq x h1).1 h2⟩
 ·rintro ⟨h1, h2⟩; exact ⟨h1, (hq x h1).2 h2⟩
theorem Qt0 {β : Type} (o : Option P3) (J : Bool → List (List CV) → Option β) (F : List P3) (hF : F.length ≤ 1000) (r : Option β) (h : J (F ++ o.toList).isEmpty (pl3 (F ++ o.toList)) = r) :
  (optO (CV.asT (optP o)) fun t37 => optO (t37[0]?) fun yU => optO (CV.asT (optP o)) fun qy => optO (qy[1]?) fun o5 => optO (CV.asA yU) fun c41 => chkO (c41.length == 3) (
   optO (c41[0]?) fun mw => optO (c41[1]?) fun oW => optO (c41[2]?) fun oN => optO (CV.asB o5) fun gN =>
   bif gN then (chkO (room ((pl3 F).length + 1) 24) (J (F.isEmpty && false) (pl3 F ++ [[mw, oW, oN]]))) else (J F.isEmpty (pl3 F)))) = r := by
 cases o with
 | none => rw [← h, Option.toList_none, List.append_nil]; rfl
 | some x =>
  refine stO _ rfl (stO _ rfl (stO _ rfl (stO _ rfl (stO _ rfl (stC rfl (stO _ rfl (stO _ rfl (stO _ rfl (stO _ rfl (stT rfl (stC (Qa8 (by simp [pl3]; omega) (by omega)) ?_)))))))))))
  rw [← h, Qu5 F x]
  simp [pl3, pcv3]
theorem QwX (n : Nat) (fr to days fr' to' days' : Int) (o3 : Option P3) (F : List P3) (hF : F.length ≤ 2)
  (h6 : C lb n Qbq [.agg [.int .i64 fr, .int .i64 to, .int .i64 days], .int .i64 (IntKind.wrap .i64 (to' + 1)), .int .i64 to, .int .i64 127] = some (optP o3)) :
  QdB lb n fr to days fr' to' days' F.isEmpty (pl3 F) = some (.list (F ++ o3.toList).isEmpty (pl3 (F ++ o3.toList))) := by
 rw [QlN]
 have q := Qt0 o3 (fun (b : Bool) (l : List (List CV)) => some (CV.list b l)) F (by omega) _ rfl
 refine stO _ h6 ?_
 generalize o3.toList = u at q ⊢
 exact q
theorem Qwh (n : Nat) (fr to days fr' to' days' : Int) (o2 o3 : Option P3) (F : List P3) (hF : F.length ≤ 1)
  (h5 : C lb n Qbq [.agg [.int .i64 fr, .int .i64 to, .int .i64 days], .int .i64 fr', .int .i64 to', .int .i64 (notD days')] = some (optP o2))
  (h6 : C lb n Qbq [.agg [.int .i64 fr, .int .i64 to, .int .i64 days], .int .i64 (IntKind.wrap .i64 (to' + 1)), .int .i64 to, .int .i64 127] = some (optP o3)) :
  Qeu lb n fr to days fr' to' days' F.isEmpty (pl3 F) = some (.list (F ++ o2.toList ++ o3.toList).isEmpty (pl3 (F ++ o2.toList ++ o3.toList))) := by
 rw [Ql6]
 have lo : o2.toList.length ≤ 1 := by cases o2 <;> simp
 exact stO _ h5 (Qt0 _ (fun b l => QdB lb n fr to days fr' to' days' b l) F (by omega) _ (QwX lb n fr to days fr' to' days' o3 _ (by simp only [List.length_append]; omega) h6))
theorem Qvt (n : Nat) (fr to days fr' to' days' : Int) (o1 o2 o3 : Option P3) (e1 e2 : Int)
  (g1 : C lb n QbA [.agg [.int .i64 fr, .int .i64 to, .int .i64 days]] = some (.int .i64 0))
  (g2 : C lb n QbA [.agg [.int .i64 fr', .int .i64 to', .int .i64 days']] = some (.int .i64 0))
  (h4 : C lb n Qbq [.agg [.int .i64 fr, .int .i64 to, .int .i64 days], .int .i64 fr, .int .i64 (IntKind.wrap .i64 (fr' - 1)), .int .i64 127] = some (optP o1))
  (h5 : C lb n Qbq [.agg [.int .i64 fr, .int .i64 to, .int .i64 days], .int .i64 fr', .int .i64 to', .int .i64 (notD days')] = some (optP o2))
  (h6 : C lb n Qbq [.agg [.int .i64 fr, .int .i64 to, .int .i64 days], .int .i64 (IntKind.wrap .i64 (to' + 1)), .int .i64 to, .int .i64 127] = some (optP o3)) :
  top lb n Qbs [.agg [.int .i64 fr, .int .i64 to, .int .i64 days], .agg [.int .i64 fr', .int .i64 to', .int .i64 days']] =
   some (.list (o1.toList ++ o2.toList ++ o3.toList).isEmpty (pl3 (o1.toList ++ o2.toList ++ o3.toList))) := by
 rw [Qf6]
 refine stO _ g1 (stO _ (QaB ..) (stF rfl (stO _ g2 (stO _ (QaB ..) (stF rfl (stO _ h4 ?_))))))
 have lo : o1.toList.length ≤ 1 := by cases o1 <;> simp
 have step := Qwh lb n fr to days fr' to' days' o2 o3 o1.toList lo h5 h6
 clear h4 h5 h6 g1 g2 lo
 cases o1 with
 | none => exact stO _ rfl (stO _ rfl (stO _ rfl (stO _ rfl (stO _ rfl (stC rfl (stO _ rfl (stO _ rfl (stO _ rfl (stO _ rfl (stF rfl step))))))))))
 | some x => exact stO _ rfl (stO _ rfl (stO _ rfl (stO _ rfl (stO _ rfl (stC rfl (stO _ rfl (stO _ rfl (stO _ rfl (stO _ rfl (stT rfl step))))))))))
theorem QwN (fr to days fr' to' days' : Int) (hb : perE fr' to' days' ≠ 0) (n : Nat) (g1 : C lb n QbA [.agg [.int .i64 fr, .int .i64 to, .int .i64 days]] = some (.int .i64 0))
  (g2 : C lb n QbA [.agg [.int .i64 fr', .int .i64 to', .int .i64 days']] = some (.int .i64 (perE fr' to' days'))) (o : Option P3)
  (h3 : C lb n Qbf [.agg [.int .i64 fr, .int .i64 to, .int .i64 days]] = some (optP o)) :
  top lb n Qbs [.agg [.int .i64 fr, .int .i64 to, .int .i64 days], .agg [.int .i64 fr', .int .i64 to', .int .i64 days']] =
   some (.list o.toList.isEmpty (pl3 o.toList)) := by
 rw [Qf6]
 refine stO _ g1 (stO _ (QaB ..) (stF rfl (stO _ g2 (stO _ (QaB ..) (stT (bneT hb) (stO _ h3 ?_))))))
 cases o with
 | none => rfl
 | some x => rfl
theorem QAe (a b c : Option P3) : a.toList ++ b.toList ++ c.toList = ([a, b, c].filterMap id) := by
 cases a <;> cases b <;> cases c <;> rfl
theorem Qtj (fr to days fr' to' days' : Int) (ha : perE fr to days = 0) (hb : perE fr' to' days' = 0) :
  Qcd fr to days fr' to' days' = (Qd0 fr to days fr (fr' - 1) 127).toList ++ (Qd0 fr to days fr' to' (notD days')).toList ++ (Qd0 fr to days (to' + 1) to 127).toList := by
 obtain ⟨b0, b1, b2, b3, b4, b5⟩ := Qe8 hb
 obtain ⟨a0, a1, a2, a3, a4, a5⟩ := Qe8 ha
 have p1 : Qd0 fr to days fr (fr' - 1) 127 = ofF ((Qat fr to days).filter (QbL 0 (fr' - 1) fr' to' days')) := Qkr _ ha (by omega) fun x hx => by
  have hx0 : 0 ≤ x := (QeL (QgC.2 hx)).1
  have hx1 := (Qeh ..).1 hx
  unfold QbL
  simp only [Bool.and_eq_true, decide_eq_true_eq, Bool.not_eq_true']
  constructor
  ·rintro ⟨_, h2, _⟩
   exact ⟨hx0, h2, by cases hh : hasF fr' to' days' x with | false => rfl | true => have := (Qeh ..).1 hh; omega⟩
  ·rintro ⟨_, h2, _⟩
   exact ⟨hx1.2.1, h2, Qv0 hx0⟩
 have p2 : Qd0 fr to days fr' to' (notD days') = ofF ((Qat fr to days).filter (QbL fr' to' fr' to' days')) := Qkr _ ha (Qw6 (by omega)) fun x hx => by
  have hx0 : 0 ≤ x := (QeL (QgC.2 hx)).1
  unfold QbL
  rw [Qzx (by omega) hx0]
  simp only [Bool.and_eq_true, decide_eq_true_eq, Bool.not_eq_true']
  constructor
  ·rintro ⟨h1, h2, h3⟩
   exact ⟨h1, h2, by cases hh : hasF fr' to' days' x with | false => rfl | true => have := ((Qeh ..).1 hh).2.2.2; rw [this] at h3; cases h3⟩
  ·rintro ⟨h1, h2, h3⟩
   refine ⟨h1, h2, ?_⟩
   cases ho : onF days' x with
   | false => rfl
   | true => rw [(Qeh ..).2 ⟨hb, h1, h2, ho⟩] at h3; cases h3
 have p3 : Qd0 fr to days (to' + 1) to 127 = ofF ((Qat fr to days).filter (QbL (to' + 1) 36525 fr' to' days')) := Qkr _ ha (by omega) fun x hx => by
  have hx0 : 0 ≤ x := (QeL (QgC.2 hx)).1
  have hx1 := (Qeh ..).1 hx
  unfold QbL
  simp only [Bool.and_eq_true, decide_eq_true_eq, Bool.not_eq_true']
  constructor
  ·rintro ⟨h1, h2, _⟩
   exact ⟨h1, by omega, by cases hh : hasF fr' to' days' x with | false => rfl | true => have := (Qeh ..).1 hh; omega⟩
  ·rintro ⟨h1, _, _⟩
   exact ⟨h1, hx1.2.2.1, Qv0 hx0⟩
 rw [p1, p2, p3]
 unfold Qcd Qe7
 rw [if_pos hb, QAe]
 simp only [List.filterMap_cons, List.filterMap_nil, id]
theorem Qvm (fr to days fr' to' days' : Int) (ha : perE fr to days ≠ 0) : Qcd fr to days fr' to' days' = [] := by
 unfold Qcd Qe7
 rw [QpM ha]
 split <;> rfl
theorem QsY (fr to days fr' to' days' : Int) (hb : perE fr' to' days' ≠ 0) : Qcd fr to days fr' to' days' = (ofF (Qat fr to days)).toList := by
 unfold Qcd Qe7
 rw [if_neg hb]
 simp only [List.filterMap_cons, List.filterMap_nil]
 cases ofF (Qat fr to days) <;> rfl
theorem Qns (fr to days fr' to' days' : Int) : Ret lb Qbs [.agg [.int .i64 fr, .int .i64 to, .int .i64 days], .agg [.int .i64 fr', .int .i64 to', .int .i64 days']]
  (.list (Qcd fr to days fr' to' days').isEmpty (pl3 (Qcd fr to days fr' to' days'))) := by
 by_cases ha : perE fr to days = 0
 ·by_cases hb : perE fr' to' days' = 0
  ·obtain ⟨b0, b1, b2, b3, b4, b5⟩ := Qe8 hb
   rw [Qtj fr to days fr' to' days' ha hb]
   refine .top rfl ?_
   have q1 := Qeq lb fr to days fr (IntKind.wrap .i64 (fr' - 1)) 127
   have q2 := Qeq lb fr to days fr' to' (notD days')
   have q3 := Qeq lb fr to days (IntKind.wrap .i64 (to' + 1)) to 127
   have w1 : IntKind.wrap .i64 (fr' - 1) = fr' - 1 := Qaz (by omega) (by omega)
   have w2 : IntKind.wrap .i64 (to' + 1) = to' + 1 := Qaz (by omega) (by omega)
   refine (QbY lb fr to days).and ((QbY lb fr' to' days').and (q1.and (q2.and q3))) |>.mono fun n ⟨h1, h2, h4, h5, h6⟩ => ?_
   rw [ha] at h1
   rw [hb] at h2
   refine Qvt lb n fr to days fr' to' days' _ _ _ 0 0 h1 h2 ?_ h5 ?_
   ·rw [h4, w1]
   ·rw [h6, w2]
  ·rw [QsY fr to days fr' to' days' hb]
   refine .top rfl ?_
   refine (QbY lb fr to days).and ((QbY lb fr' to' days').and (QiJ lb fr to days)) |>.mono fun n ⟨h1, h2, h3⟩ => ?_
   rw [ha] at h1
   exact QwN lb fr to days fr' to' days' hb n h1 h2 _ h3
 ·rw [Qvm fr to days fr' to' days' ha]
  refine .top rfl (.eq (fun n => by rw [Qf6]) ?_)
  refine (QbY lb fr to days).mono fun n h1 => ?_
  exact stO _ h1 (stO _ (QaB ..) (stT (bneT ha) rfl))
end Go.Proofs
set_option linter.unusedSimpArgs false
set_option linter.unusedVariables false
namespace Go.Proofs
open Go.Am
variable (lb : Nat)
structure Rv where
 kind : Int
 car : Bs
 num : Int
 fr : Int
 to : Int
 days : Int
 min : Int
 eq : Bs
 ln : Bool
 legs : List Lg
abbrev rvcv (r : Rv) : CV := .agg [.int .i64 r.kind, .str r.car, .int .i64 r.num, .int .i64 r.fr, .int .i64 r.to, .int .i64 r.days, .int .i64 r.min, .str r.eq, .list r.ln (r.legs.map lgcv)]
def QiY (f : Fl) (r : Rv) : Option P3 := Qd4 f.fr f.to f.days r.fr r.to r.days
def QbM (f : Fl) (r : Rv) : Bool := (f.car == r.car) && ((f.num == r.num) && (QiY f r).isSome)
theorem QdG (f : Fl) (r : Rv) : Ret lb Qef [flcv f, rvcv r] (.bool (QbM f r)) := by
 refine .top rfl ((Qj1 lb f.fr f.to f.days r.fr r.to r.days).mono fun n h => ?_)
 rw [QmA]
 unfold QbM QiY
 cases h1 : f.car == r.car with
 | false => exact stT rfl rfl
 | true =>
  refine stF rfl ?_
  by_cases hn : f.num = r.num
  ·refine stF (bneF hn) (stO _ h ?_)
   rw [beqT hn]
   generalize Qd4 f.fr f.to f.days r.fr r.to r.days = o
   cases o <;> rfl
  ·rw [beqF hn]
   exact stT (bneT hn) rfl
theorem Qg2 (f : Fl) (r : Rv) : Ret lb Qis [flcv f, rvcv r] (.bool (QbM f r)) := by
 refine .top rfl ((QjH lb f.fr f.to f.days r.fr r.to r.days).mono fun n h => ?_)
 rw [QrJ]
 unfold QbM QiY
 refine stO _ h ?_
 generalize Qd4 f.fr f.to f.days r.fr r.to r.days = o
 cases o with
 | none => cases f.car == r.car <;> cases f.num == r.num <;> rfl
 | some x => cases f.car == r.car <;> cases f.num == r.num <;> rfl
def Qey (f g : Fl) : Bool := (f.car == g.car) && ((f.num == g.num) && (Qd4 f.fr f.to f.days g.fr g.to g.days).isSome)
theorem Qtl (f g : Fl) : Ret lb QkF [flcv f, flcv g] (.bool (Qey f g)) := by
 refine .top rfl ((QjH lb f.fr f.to f.days g.fr g.to g.days).mono fun n h => ?_)
 rw [QtV]
 unfold Qey
 refine stO _ h ?_
 generalize Qd4 f.fr f.to f.days g.fr g.to g.days = o
 cases o with
 | none => cases f.car == g.car <;> cases f.num == g.num <;> rfl
 | some x => cases f.car == g.car <;> cases f.num == g.num <;> rfl
def QbP (r : Rv) (x : Lg) : Lg :=
 if r.kind = 3 then { x with dep := IntKind.wrap .i64 (x.dep + r.min), arr := IntKind.wrap .i64 (x.arr + r.min) } else if r.kind = 4 then { x with eq := r.eq } else x
def Qap (r : Rv) (f : Fl) (q : P3) : Fl :=
 if r.kind = 5 then { f with fr := q.1, to := q.2.1, days := q.2.2, ln := r.ln, legs := r.legs } else { f with fr := q.1, to := q.2.1, days := q.2.2, ln := f.legs.isEmpty, legs := f.legs.map (QbP r) }
theorem set1 {α : Type} (Q : List α) (x a : α) : ∀ P : List α, setN (P ++ x :: Q) P.length a = P ++ a :: Q
 | [] => rfl
 | p :: P => by
  show p :: setN (P ++ x :: Q) P.length a = _
  rw [set1 Q x a P]; rfl
theorem Qtz (k : Nat) : 0 + ((k : Int)).toNat = k := by omega
theorem Qrf (n : Nat) (f : Fl) (r : Rv) (hl : f.legs.length ≤ 1000) (hk : r.kind = 3 ∨ r.kind = 4) (wZ wC yf w8 wA yc : CV) : ∀ (t p : List Lg) (k : Nat), p ++ t = f.legs → t.length < k →
  Qc9 lb n k f.car f.num f.fr f.to f.days f.ln (f.legs.map lgcv) r.kind r.car r.num r.fr r.to r.days r.min r.eq r.ln (r.legs.map lgcv) wZ wC yf w8 wA yc (p.length : Int) ((p.map (QbP r) ++ t).map lgcv) =
   some (.agg [.str f.car, .int .i64 f.num, w8, wA, yc, .list false ((f.legs.map (QbP r)).map lgcv)])
 | [], p, k, h, hk' => by
  obtain ⟨k, rfl⟩ : ∃ m, k = m + 1 := ⟨k - 1, by simp at hk'; omega⟩
  have hp : p = f.legs := by simpa using h
  subst hp
  rw [QfP]
  refine stF (decF (by simp)) ?_
  rw [QkJ]
  refine stC (decT (by simp)) ?_
  rw [List.drop_zero, List.append_nil, List.take_of_length_le (by simp)]
 | x :: t, p, k, h, hk' => by
  obtain ⟨k, rfl⟩ : ∃ m, k = m + 1 := ⟨k - 1, by simp at hk'; omega⟩
  have hlen : f.legs.length = p.length + (t.length + 1) := by rw [← h]; simp
  have hw : IntKind.wrap .i64 ((p.length : Int) + 1) = ((p ++ [x]).length : Int) := by rw [Qaz (by omega) (by omega)]; simp
  have hL : ((p.map (QbP r)).map lgcv).length = p.length := by simp
  have e0 : (p.map (QbP r) ++ x :: t).map lgcv = (p.map (QbP r)).map lgcv ++ lgcv x :: t.map lgcv := by simp
  have e1 : ((p.map (QbP r)).map lgcv ++ lgcv x :: t.map lgcv)[0 + ((p.length : Int)).toNat]? = some (lgcv x) := by
   rw [Qtz, List.getElem?_append_right (by simp)]; simp
  have st : ∀ a : List CV, setN ((p.map (QbP r)).map lgcv ++ lgcv x :: t.map lgcv) (0 + ((p.length : Int)).toNat) a = (p.map (QbP r)).map lgcv ++ a :: t.map lgcv := fun a => by
   have := set1 (t.map lgcv) (lgcv x) a ((p.map (QbP r)).map lgcv)
   rw [hL] at this
   rw [Qtz, this]
  have st2 : ∀ a b : List CV, setN ((p.map (QbP r)).map lgcv ++ b :: t.map lgcv) (0 + ((p.length : Int)).toNat) a = (p.map (QbP r)).map lgcv ++ a :: t.map lgcv := fun a b => by
   have := set1 (t.map lgcv) b a ((p.map (QbP r)).map lgcv)
   rw [hL] at this
   rw [Qtz, this]
  have e2 : ∀ a : List CV, (setN ((p.map (QbP r)).map lgcv ++ lgcv x :: t.map lgcv) (0 + ((p.length : Int)).toNat) a)[0 + ((p.length : Int)).toNat]? = some a := fun a => by
   rw [st, Qtz, List.getElem?_append_right (by simp)]; simp
  have ih := Qrf n f r hl hk wZ wC yf w8 wA yc t (p ++ [x]) k (by rw [← h]; simp) (by simp at hk'; omega)
  rw [QfP, e0]
  refine stT (decT (by simp; omega)) (stC (by rw [Bool.and_eq_true, decide_eq_true_eq, decide_eq_true_eq]; simp; omega) ?_)
  rcases hk with h3 | h4
  ·refine stT (beqT h3) (stO _ e1 (stO _ rfl (stO _ (QaB ..) (stO _ e1 (stC rfl (stO _ (e2 _) (stO _ rfl (stO _ (QaB ..) (stO _ (e2 _) (stC rfl ?_))))))))))
   rw [hw, st, st2]
   have e5 : lgcv (QbP r x) = Qbo (Qbo (lgcv x) 2 [.int .i64 (IntKind.wrap .i64 (x.dep + r.min))]) 3 [.int .i64 (IntKind.wrap .i64 (x.arr + r.min))] := by
    unfold QbP; rw [if_pos h3]; rfl
   rw [← e5]
   simpa using ih
  ·have h3 : ¬ r.kind = 3 := by omega
   refine stF (beqF h3) (stO _ e1 (stC rfl ?_))
   rw [hw, st]
   have e5 : lgcv (QbP r x) = Qbo (lgcv x) 4 [.str r.eq] := by
    unfold QbP; rw [if_neg h3, if_pos h4]; rfl
   rw [← e5]
   simpa using ih
theorem QlV (f : Fl) (r : Rv) (q : P3) (hl : f.legs.length ≤ 1000) (hk : r.kind = 3 ∨ r.kind = 4 ∨ r.kind = 5) (hln : f.ln = false) (hne : f.legs ≠ []) (hq : QiY f r = some q) :
  Ret lb Qau [flcv f, rvcv r] (flcv (Qap r f q)) := by
 refine .top rfl (Evt.imp2 (Evt.ge (f.legs.length + 1)) (Qj1 lb f.fr f.to f.days r.fr r.to r.days) fun n hn h => ?_)
 have hq' : Qd4 f.fr f.to f.days r.fr r.to r.days = some q := hq
 rw [hq'] at h
 rw [Qmv]
 refine stO _ h (stO _ rfl (stO _ rfl (stO _ rfl (stO _ rfl (stO _ rfl (stC rfl (stO _ rfl (stO _ rfl (stO _ rfl ?_)))))))))
 by_cases h5 : r.kind = 5
 ·refine stT (beqT h5) ?_
  unfold Qap; rw [if_pos h5]
 ·refine stF (beqF h5) (stF hln (stC ?_ (stC (Qa8 (by simp; omega) (by omega)) (stF ?_ ?_))))
  ·simp [lgcv]
  ·simpa using hne
  ·have := Qrf lb n f r hl (by omega) (optP (some q)) (.agg (pcv3 q)) (.bool true) (.int .i64 q.1) (.int .i64 q.2.1) (.int .i64 q.2.2) f.legs [] n rfl (by omega)
   unfold Qap; rw [if_neg h5]
   have hem : f.legs.isEmpty = false := by simpa using hne
   simp only [hem]
   exact this
theorem Qvv (n k : Nat) (f : Fl) (r : Rv) (q : P3) (h3 : r.kind = 3) (i : Int) (c : List CV) (p : List Lg) (hp : p.length ≤ 1000) (x : Lg) (ve kc : CV) :
  QhL lb n k f.car f.num f.fr f.to f.days f.ln (f.legs.map lgcv) r.kind r.car r.num r.fr r.to r.days r.min r.eq r.ln (r.legs.map lgcv) q.1 q.2.1 q.2.2 i c (.str x.fro) (.str x.to) ve kc (.str x.eq) p.isEmpty (p.map lgcv) (IntKind.wrap .i64 (x.dep + r.min)) (IntKind.wrap .i64 (x.arr + r.min)) =
   Qco lb n k f.car f.num f.fr f.to f.days f.ln (f.legs.map lgcv) r.kind r.car r.num r.fr r.to r.days r.min r.eq r.ln (r.legs.map lgcv) q.1 q.2.1 q.2.2 (IntKind.wrap .i64 (i + 1)) (p ++ [QbP r x]).isEmpty ((p ++ [QbP r x]).map lgcv) := by
 rw [Qor]
 refine stF (beqF (by omega)) (stC (Qa8 (by simp; omega) (by omega)) ?_)
 rw [Qbr p (QbP r x), List.map_append]
 unfold QbP; rw [if_pos h3]; rfl
theorem Qvp (n k : Nat) (f : Fl) (r : Rv) (q : P3) (h3 : ¬ r.kind = 3) (i : Int) (c : List CV) (p : List Lg) (hp : p.length ≤ 1000) (x : Lg) :
  QhP lb n k f.car f.num f.fr f.to f.days f.ln (f.legs.map lgcv) r.kind r.car r.num r.fr r.to r.days r.min r.eq r.ln (r.legs.map lgcv) q.1 q.2.1 q.2.2 i c (.str x.fro) (.str x.to) (.int .i64 x.dep) (.int .i64 x.arr) (.str x.eq) p.isEmpty (p.map lgcv) =
   Qco lb n k f.car f.num f.fr f.to f.days f.ln (f.legs.map lgcv) r.kind r.car r.num r.fr r.to r.days r.min r.eq r.ln (r.legs.map lgcv) q.1 q.2.1 q.2.2 (IntKind.wrap .i64 (i + 1)) (p ++ [QbP r x]).isEmpty ((p ++ [QbP r x]).map lgcv) := by
 rw [Qoo]
 rw [Qbr p (QbP r x), List.map_append]
 unfold QbP; rw [if_neg h3]
 by_cases h4 : r.kind = 4
 ·rw [if_pos h4]
  exact stT (beqT h4) (stC (Qa8 (by simp; omega) (by omega)) rfl)
 ·rw [if_neg h4]
  exact stF (beqF h4) (stC (Qa8 (by simp; omega) (by omega)) rfl)
theorem QoP (n : Nat) (f : Fl) (r : Rv) (q : P3) (hl : f.legs.length ≤ 1000) : ∀ (t p : List Lg) (k : Nat), p ++ t = f.legs → t.length < k →
  Qco lb n k f.car f.num f.fr f.to f.days f.ln (f.legs.map lgcv) r.kind r.car r.num r.fr r.to r.days r.min r.eq r.ln (r.legs.map lgcv) q.1 q.2.1 q.2.2 (p.length : Int) (p.map (QbP r)).isEmpty ((p.map (QbP r)).map lgcv) =
   some (.agg [.str f.car, .int .i64 f.num, .int .i64 q.1, .int .i64 q.2.1, .int .i64 q.2.2, .list (f.legs.map (QbP r)).isEmpty ((f.legs.map (QbP r)).map lgcv)])
 | [], p, k, h, hk' => by
  obtain ⟨k, rfl⟩ : ∃ m, k = m + 1 := ⟨k - 1, by simp at hk'; omega⟩
  have hp : p = f.legs := by simpa using h
  rw [Qhi, hp]
  refine stF (decF (by simp)) ?_
  rw [Qof]
 | x :: t, p, k, h, hk' => by
  obtain ⟨k, rfl⟩ : ∃ m, k = m + 1 := ⟨k - 1, by simp at hk'; omega⟩
  have hlen : f.legs.length = p.length + (t.length + 1) := by rw [← h]; simp
  have hw : IntKind.wrap .i64 ((p.length : Int) + 1) = ((p ++ [x]).length : Int) := by rw [Qaz (by omega) (by omega)]; simp
  have ih := QoP n f r q hl t (p ++ [x]) k (by rw [← h]; simp) (by simp at hk'; omega)
  have hg : (f.legs.map lgcv)[p.length]? = some (lgcv x) := by rw [← h]; simp
  rw [List.map_append, ← hw] at ih
  rw [Qhi]
  refine stT (decT (by simp; omega)) (stO _ (QaG hg) (stC rfl (stO _ rfl (stO _ rfl (stO _ rfl (stO _ rfl (stO _ rfl ?_)))))))
  by_cases h3 : r.kind = 3
  ·exact stT (beqT h3) (stO _ (QaB ..) (stO _ (QaB ..) ((Qvv lb n k f r q h3 _ _ (p.map (QbP r)) (by simp; omega) x _ _).trans ih)))
  ·exact stF (beqF h3) ((Qvp lb n k f r q h3 _ _ (p.map (QbP r)) (by simp; omega) x).trans ih)
theorem Qqz (f : Fl) (r : Rv) (q : P3) (hl : f.legs.length ≤ 1000) : Ret lb Qaq [flcv f, rvcv r, .agg (pcv3 q)] (flcv (Qap r f q)) := by
 refine .top rfl ((Evt.ge (f.legs.length + 1)).mono fun n hn => ?_)
 unfold pcv3
 rw [QrL]
 by_cases h5 : r.kind = 5
 ·refine stT (beqT h5) ?_
  unfold Qap; rw [if_pos h5]
 ·refine stF (beqF h5) ((QoP lb n f r q hl f.legs [] n rfl (by omega)).trans ?_)
  unfold Qap; rw [if_neg h5]
  simp
end Go.Proofs
