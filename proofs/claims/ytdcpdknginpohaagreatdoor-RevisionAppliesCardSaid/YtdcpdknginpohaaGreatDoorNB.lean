/- Chapter 10 on plain data: the stable sort of a few flights by their first days (printed by mkns.py). Conditions: as each says. -/
import Derived.Test.YtdcpdknginpohaaGreatDoorVs
import Derived.Test.YtdcpdknginpohaaGreatDoorKB
import Derived.Test.YtdcpdknginpohaaGreatDoorNA
import Derived.Test.YtdcpdknginpohaaGreatDoorNh
import Derived.Test.YtdcpdknginpohaaGreatDoorKC
import Derived.Test.YtdcpdknginpohaaGreatDoorVd
import Derived.Test.YtdcpdknginpohaaGreatDoorW10
set_option linter.unusedSimpArgs false
set_option linter.unusedVariables false
set_option maxRecDepth 100000
namespace Go.Proofs
open Go.Am
variable (lb : Nat)
theorem Qtp {ι : Type} {f : FuncId} {args : ι → List CV} {r : ι → CV} (hL : L lb f = none) (h : Evt fun n => ∀ i, top lb n f (args i) = some (r i)) : Evt fun n => ∀ i, C lb n f (args i) = some (r i) := by
 obtain ⟨N, hN⟩ := h
 refine ⟨N + 1, fun n hn i => ?_⟩
 obtain ⟨m, rfl⟩ : ∃ m, n = m + 1 := ⟨n - 1, by omega⟩
 rw [Qyw lb m f (args i) hL]
 exact hN m (by omega) i
def cmpI (a b : Int) : Int := if a < b then -1 else if a > b then 1 else 0
theorem QsN : Evt fun n => ∀ a : Int, C lb n Qfk [.int .i64 a] = some (.bool false) := Qtp lb rfl (.all fun n a => by rw [Qpj]; simp)
theorem QpZ : Evt fun n => ∀ p : Int × Int, C lb n QfZ [.int .i64 p.1, .int .i64 p.2] = some (.int .i64 (cmpI p.1 p.2)) := by
 refine Qtp lb rfl ((QsN lb).mono fun n h p => ?_)
 obtain ⟨a, b⟩ := p
 rw [QnA]
 refine stO _ (h a) (stO _ (h b) (stO _ rfl (stF rfl (stO _ rfl (stF rfl ?_)))))
 unfold cmpI
 by_cases c : a < b
 ·rw [if_pos c]; exact stT (decT c) rfl
 ·rw [if_neg c]
  by_cases d : a > b
  ·rw [if_pos d]; exact stF (decF c) (stT (decT d) rfl)
  ·rw [if_neg d]; exact stF (decF c) (stF (decF d) rfl)
def flE (f : Fl) : List CV := [.str f.car, .int .i64 f.num, .int .i64 f.fr, .int .i64 f.to, .int .i64 f.days, .list f.ln (f.legs.map lgcv)]
def Cmp (n : Nat) : Prop := ∀ p : Fl × Fl, C lb n Qae [.agg (flE p.1), .agg (flE p.2)] = some (.int .i64 (cmpI p.1.fr p.2.fr))
theorem Qzh : Evt fun n => Cmp lb n := by
 refine Qtp lb rfl ((QpZ lb).mono fun n h p => ?_)
 unfold flE
 rw [Qmh]
 exact stO _ (h (p.1.fr, p.2.fr)) rfl
def insR (x : Fl) : List Fl → List Fl
 | [] => [x]
 | y :: r => if x.fr < y.fr then y :: insR x r else x :: y :: r
def QeU : List Fl → List Fl → List Fl
 | S, [] => S
 | S, x :: R => QeU (insR x S.reverse).reverse R
theorem Qhu (x : Fl) : ∀ S : List Fl, (insR x S).length = S.length + 1
 | [] => rfl
 | y :: r => by
  unfold insR
  split
  ·simp [Qhu x r]
  ·simp
theorem QmL : ∀ (R S : List Fl), (QeU S R).length = S.length + R.length
 | [], S => rfl
 | x :: R, S => by rw [QeU, QmL R]; simp [Qhu]; omega
theorem Qq5 {α : Type} (Q : List α) (x a : α) : ∀ P : List α, setN (P ++ x :: Q) P.length a = P ++ a :: Q
 | [] => rfl
 | p :: P => by
  show p :: setN (P ++ x :: Q) P.length a = _
  rw [Qq5 Q x a P]; rfl
theorem QrB {α : Type} (P Q : List α) (y x a : α) : setN (P ++ y :: x :: Q) (P.length + 1) a = P ++ y :: a :: Q := by
 have := Qq5 Q x a (P ++ [y])
 simpa using this
theorem set2 {α : Type} (P Q : List α) (y x a b : α) : setN (setN (P ++ y :: x :: Q) (P.length + 1) a) P.length b = P ++ b :: a :: Q := by
 rw [QrB, Qq5]
theorem Qge (k : Nat) : 0 + ((k : Int)).toNat = k := by omega
theorem Qw6 {k : Nat} (h : k ≤ 1000) : IntKind.wrap .i64 (((k + 1 : Nat) : Int) - 1) = (k : Int) := by
 rw [Qaz (by omega) (by omega)]; omega
theorem Qxf (n jM wc : Nat) (wa jC wG : Int) (wk : Bool) (wg : List (List CV)) (wl : Bool) (wh : List (List CV)) (wj : List UInt8) (wi jS jQ j5 : Int) (j6 : Bool) (jX : List (List CV)) (j0 : Int) (jT : List UInt8) (jW jZ jP jV jY : Int) (jU : List UInt8) (jO : Bool) (jR wJ : List (List CV)) (wO wS wP wR wQ wT : CV) (K : AV → List (List (Option (List AV))) → Option CV) (w4 : Nat) (wU : Int) (h0 : jC = 0) (hc : Cmp lb n) (x : Fl) : ∀ (P Q : List Fl) (k : Nat), P.length < k → jM = P.length + 1 + Q.length → jM ≤ 1000 →
  QbC lb n k jM wc wa jC wG wk wg wl wh wj wi jS jQ j5 j6 jX j0 jT jW jZ jP jV jY jU jO jR wJ wO wS wP wR wQ wT K w4 wU (P.length : Int) ((P.reverse ++ x :: Q).map flE) =
   Qbg lb n w4 jM wc wa jC wG wk wg wl wh wj wi jS jQ j5 j6 jX j0 jT jW jZ jP jV jY jU jO jR wJ wO wS wP wR wQ wT K (IntKind.wrap .i64 (wU + 1)) (((insR x P).reverse ++ Q).map flE)
 | [], Q, k, hk, hm, h1 => by
  obtain ⟨k, rfl⟩ : ∃ m, k = m + 1 := ⟨k - 1, by simp at hk; omega⟩
  rw [QcJ]
  refine stF (decF (by subst h0; simp)) ?_
  rw [QcZ]
  rfl
 | y :: P, Q, k, hk, hm, h1 => by
  obtain ⟨k, rfl⟩ : ∃ m, k = m + 1 := ⟨k - 1, by simp at hk; omega⟩
  have hL : (P.reverse.map flE).length = P.length := by simp
  have e0 : ((y :: P).reverse ++ x :: Q).map flE = P.reverse.map flE ++ flE y :: flE x :: Q.map flE := by simp
  have e1 : (P.reverse.map flE ++ flE y :: flE x :: Q.map flE)[0 + (((y :: P).length : Int)).toNat]? = some (flE x) := by
   rw [Qge, List.getElem?_append_right (by simp)]; simp
  have w1 : IntKind.wrap .i64 (((y :: P).length : Int) - 1) = (P.length : Int) := by
   rw [List.length_cons]; exact Qw6 (by simp only [List.length_cons] at hm; omega)
  have e2 : (P.reverse.map flE ++ flE y :: flE x :: Q.map flE)[0 + ((P.length : Int)).toNat]? = some (flE y) := by
   rw [Qge, List.getElem?_append_right (by simp)]; simp
  have b1 : (decide (0 ≤ (((y :: P).length : Nat) : Int)) && decide ((((y :: P).length : Nat) : Int) < ((jM : Nat) : Int))) = true := by
   rw [Bool.and_eq_true, decide_eq_true_eq, decide_eq_true_eq]; simp only [List.length_cons] at hm ⊢; omega
  have b2 : (decide (0 ≤ ((P.length : Nat) : Int)) && decide (((P.length : Nat) : Int) < ((jM : Nat) : Int))) = true := by
   rw [Bool.and_eq_true, decide_eq_true_eq, decide_eq_true_eq]; simp only [List.length_cons] at hm ⊢; omega
  rw [QcJ, e0, w1]
  refine stT (decT (by subst h0; simp only [List.length_cons]; omega)) (stC b1 (stO _ e1 (stO _ rfl (stO _ rfl (stO _ rfl (stO _ rfl (stO _ rfl (stO _ rfl (stC b2 (stO _ e2 (stO _ rfl (stO _ rfl (stO _ rfl (stO _ rfl (stO _ rfl (stO _ rfl (stO _ (hc (x, y)) (stO _ (QaD ..) ?_))))))))))))))))))
  by_cases hlt : x.fr < y.fr
  ·have e3 : (setN (P.reverse.map flE ++ flE y :: flE x :: Q.map flE) (0 + (((y :: P).length : Int)).toNat) (flE y))[0 + ((P.length : Int)).toNat]? = some (flE y) := by
    have := QrB (P.reverse.map flE) (Q.map flE) (flE y) (flE x) (flE y)
    rw [hL] at this
    rw [Qge, Qge, List.length_cons, this, List.getElem?_append_right (by simp)]
    simp [setN]
   refine stT (decT (by simp [cmpI, hlt])) (stC b2 (stO _ e2 (stO _ rfl (stO _ rfl (stO _ rfl (stO _ rfl (stO _ rfl (stO _ rfl (stC b1 (stO _ e1 (stO _ rfl (stO _ rfl (stO _ rfl (stO _ rfl (stO _ rfl (stO _ rfl (stC b1 (stO _ e1 (stC rfl (stC b2 (stO _ e3 (stC rfl ?_))))))))))))))))))))))
   have e4 : setN (setN (P.reverse.map flE ++ flE y :: flE x :: Q.map flE) (0 + (((y :: P).length : Int)).toNat) (flE y)) (0 + ((P.length : Int)).toNat) (flE x) = (P.reverse ++ x :: y :: Q).map flE := by
    have := set2 (P.reverse.map flE) (Q.map flE) (flE y) (flE x) (flE y) (flE x)
    rw [hL] at this
    rw [Qge, Qge, List.length_cons, this]; simp
   have ih := Qxf n jM wc wa jC wG wk wg wl wh wj wi jS jQ j5 j6 jX j0 jT jW jZ jP jV jY jU jO jR wJ wO wS wP wR wQ wT K w4 wU h0 hc x P (y :: Q) k (by simp at hk; omega) (by simp at hm ⊢; omega) h1
   have e5 : (insR x (y :: P)).reverse ++ Q = (insR x P).reverse ++ y :: Q := by simp [insR, hlt]
   rw [e5]
   exact (congrArg _ e4).trans ih
  ·refine stF (decF (by unfold cmpI; rw [if_neg hlt]; split <;> omega)) ?_
   rw [QcZ]
   have e5 : (insR x (y :: P)).reverse ++ Q = P.reverse ++ y :: x :: Q := by simp [insR, hlt]
   rw [e5]
   simp
theorem Qvm (n jM wc : Nat) (wa jC wG : Int) (wk : Bool) (wg : List (List CV)) (wl : Bool) (wh : List (List CV)) (wj : List UInt8) (wi jS jQ j5 : Int) (j6 : Bool) (jX : List (List CV)) (j0 : Int) (jT : List UInt8) (jW jZ jP jV jY : Int) (jU : List UInt8) (jO : Bool) (jR wJ : List (List CV)) (wO wS wP wR wQ wT : CV) (K : AV → List (List (Option (List AV))) → Option CV) (h0 : jC = 0) (hc : Cmp lb n) (hn : jM < n) (h3 : wa = (jM : Int)) : ∀ (R S : List Fl) (k : Nat), R.length < k → jM = S.length + R.length → jM ≤ 1000 →
  Qbg lb n k jM wc wa jC wG wk wg wl wh wj wi jS jQ j5 j6 jX j0 jT jW jZ jP jV jY jU jO jR wJ wO wS wP wR wQ wT K (S.length : Int) ((S ++ R).map flE) =
   QbE lb n n K jM wc wa jC wk wg wl wh wj wi jS jQ j5 j6 jX j0 jT jW jZ jP jV jY jU jO jR wO wS wP wR wQ wT 20 jC wG ((QeU S R).map flE)
 | [], S, k, hk, hm, h1 => by
  obtain ⟨k, rfl⟩ : ∃ m, k = m + 1 := ⟨k - 1, by simp at hk; omega⟩
  rw [QcI]
  refine stF (decF (by simp at hm; omega)) ?_
  rw [List.append_nil]; rfl
 | x :: R, S, k, hk, hm, h1 => by
  obtain ⟨k, rfl⟩ : ∃ m, k = m + 1 := ⟨k - 1, by simp at hk; omega⟩
  rw [QcI]
  refine stT (decT (by simp at hm; omega)) ?_
  have ih := Qvm n jM wc wa jC wG wk wg wl wh wj wi jS jQ j5 j6 jX j0 jT jW jZ jP jV jY jU jO jR wJ wO wS wP wR wQ wT K h0 hc hn h3 R (insR x S.reverse).reverse k (by simp at hk; omega) (by simp [Qhu] at hm ⊢; omega) h1
  have w1 : IntKind.wrap .i64 ((S.length : Int) + 1) = (((insR x S.reverse).reverse.length : Nat) : Int) := by
   rw [Qaz (by simp at hm; omega) (by simp at hm; omega)]; simp [Qhu]
  have st := Qxf lb n jM wc wa jC wG wk wg wl wh wj wi jS jQ j5 j6 jX j0 jT jW jZ jP jV jY jU jO jR wJ wO wS wP wR wQ wT K k (S.length : Int) h0 hc x S.reverse R n (by simp at hm ⊢; omega) (by simp at hm ⊢; omega) h1
  rw [List.reverse_reverse, List.length_reverse, w1] at st
  exact st.trans ih
theorem Qvu (n : Nat) (K : AV → List (List (Option (List AV))) → Option CV) (jM wc : Nat) (wa : Int) (wk : Bool) (wg : List (List CV)) (wl : Bool) (wh : List (List CV)) (wj : List UInt8) (wi jS jQ j5 : Int) (j6 : Bool) (jX : List (List CV)) (j0 : Int) (jT : List UInt8) (jW jZ jP jV jY : Int) (jU : List UInt8) (jO : Bool) (jR : List (List CV)) (wO wS wP wR wQ wT : CV) (jC : Int) (h0 : jC = 0) (hc : Cmp lb n) (hn : jM < n) (h3 : wa = (jM : Int)) (R : List Fl) (x : Fl) (hm : jM = R.length + 1) (h1 : jM ≤ 19) :
  Qca lb n n K jM wc wa wk wg wl wh wj wi jS jQ j5 j6 jX j0 jT jW jZ jP jV jY jU jO jR wO wS wP wR wQ wT jC 20 ((x :: R).map flE) =
   QbE lb n n K jM wc wa jC wk wg wl wh wj wi jS jQ j5 j6 jX j0 jT jW jZ jP jV jY jU jO jR wO wS wP wR wQ wT 20 jC 20 ((QeU [x] R).map flE) := by
 obtain ⟨m, rfl⟩ : ∃ m, n = m + 1 := ⟨n - 1, by omega⟩
 have w : IntKind.wrap .i64 (jC + 1) = (([x].length : Nat) : Int) := by subst h0; rfl
 rw [QeE]
 refine stF (decF (by omega)) ?_
 rw [QeZ, w]
 exact Qvm lb (m + 1) _ _ _ _ _ _ _ _ _ _ _ _ _ _ _ _ _ _ _ _ _ _ _ _ _ _ _ _ _ _ _ _ _ _ h0 hc hn h3 R [x] (m + 1) (by omega) (by simp; omega) (by omega)
theorem Qvk (n jM wc : Nat) (wa jC wG : Int) (wk : Bool) (wg : List (List CV)) (wl : Bool) (wh : List (List CV)) (wj : List UInt8) (wi jS jQ j5 : Int) (j6 : Bool) (jX : List (List CV)) (j0 : Int) (jT : List UInt8) (jW jZ jP jV jY : Int) (jU : List UInt8) (jO : Bool) (jR wJ : List (List CV)) (K : AV → List (List (Option (List AV))) → Option CV) (w4 : Nat) (wU : Int) (h0 : jC = 0) (hc : Cmp lb n) (x : Fl) : ∀ (P Q : List Fl) (k : Nat), P.length < k → jM = P.length + 1 + Q.length → jM ≤ 1000 →
  Qbs lb n k jM wc wa jC wG wk wg wl wh wj wi jS jQ j5 j6 jX j0 jT jW jZ jP jV jY jU jO jR wJ K w4 wU (P.length : Int) ((P.reverse ++ x :: Q).map flE) =
   Qbc lb n w4 jM wc wa jC wG wk wg wl wh wj wi jS jQ j5 j6 jX j0 jT jW jZ jP jV jY jU jO jR wJ K (IntKind.wrap .i64 (wU + 1)) (((insR x P).reverse ++ Q).map flE)
 | [], Q, k, hk, hm, h1 => by
  obtain ⟨k, rfl⟩ : ∃ m, k = m + 1 := ⟨k - 1, by simp at hk; omega⟩
  rw [QcC]
  refine stF (decF (by subst h0; simp)) ?_
  rw [QcH]
  rfl
 | y :: P, Q, k, hk, hm, h1 => by
  obtain ⟨k, rfl⟩ : ∃ m, k = m + 1 := ⟨k - 1, by simp at hk; omega⟩
  have hL : (P.reverse.map flE).length = P.length := by simp
  have e0 : ((y :: P).reverse ++ x :: Q).map flE = P.reverse.map flE ++ flE y :: flE x :: Q.map flE := by simp
  have e1 : (P.reverse.map flE ++ flE y :: flE x :: Q.map flE)[0 + (((y :: P).length : Int)).toNat]? = some (flE x) := by
   rw [Qge, List.getElem?_append_right (by simp)]; simp
  have w1 : IntKind.wrap .i64 (((y :: P).length : Int) - 1) = (P.length : Int) := by
   rw [List.length_cons]; exact Qw6 (by simp only [List.length_cons] at hm; omega)
  have e2 : (P.reverse.map flE ++ flE y :: flE x :: Q.map flE)[0 + ((P.length : Int)).toNat]? = some (flE y) := by
   rw [Qge, List.getElem?_append_right (by simp)]; simp
  have b1 : (decide (0 ≤ (((y :: P).length : Nat) : Int)) && decide ((((y :: P).length : Nat) : Int) < ((jM : Nat) : Int))) = true := by
   rw [Bool.and_eq_true, decide_eq_true_eq, decide_eq_true_eq]; simp only [List.length_cons] at hm ⊢; omega
  have b2 : (decide (0 ≤ ((P.length : Nat) : Int)) && decide (((P.length : Nat) : Int) < ((jM : Nat) : Int))) = true := by
   rw [Bool.and_eq_true, decide_eq_true_eq, decide_eq_true_eq]; simp only [List.length_cons] at hm ⊢; omega
  rw [QcC, e0, w1]
  refine stT (decT (by subst h0; simp only [List.length_cons]; omega)) (stC b1 (stO _ e1 (stO _ rfl (stO _ rfl (stO _ rfl (stO _ rfl (stO _ rfl (stO _ rfl (stC b2 (stO _ e2 (stO _ rfl (stO _ rfl (stO _ rfl (stO _ rfl (stO _ rfl (stO _ rfl (stO _ (hc (x, y)) (stO _ (QaD ..) ?_))))))))))))))))))
  by_cases hlt : x.fr < y.fr
  ·have e3 : (setN (P.reverse.map flE ++ flE y :: flE x :: Q.map flE) (0 + (((y :: P).length : Int)).toNat) (flE y))[0 + ((P.length : Int)).toNat]? = some (flE y) := by
    have := QrB (P.reverse.map flE) (Q.map flE) (flE y) (flE x) (flE y)
    rw [hL] at this
    rw [Qge, Qge, List.length_cons, this, List.getElem?_append_right (by simp)]
    simp [setN]
   refine stT (decT (by simp [cmpI, hlt])) (stC b2 (stO _ e2 (stO _ rfl (stO _ rfl (stO _ rfl (stO _ rfl (stO _ rfl (stO _ rfl (stC b1 (stO _ e1 (stO _ rfl (stO _ rfl (stO _ rfl (stO _ rfl (stO _ rfl (stO _ rfl (stC b1 (stO _ e1 (stC rfl (stC b2 (stO _ e3 (stC rfl ?_))))))))))))))))))))))
   have e4 : setN (setN (P.reverse.map flE ++ flE y :: flE x :: Q.map flE) (0 + (((y :: P).length : Int)).toNat) (flE y)) (0 + ((P.length : Int)).toNat) (flE x) = (P.reverse ++ x :: y :: Q).map flE := by
    have := set2 (P.reverse.map flE) (Q.map flE) (flE y) (flE x) (flE y) (flE x)
    rw [hL] at this
    rw [Qge, Qge, List.length_cons, this]; simp
   have ih := Qvk n jM wc wa jC wG wk wg wl wh wj wi jS jQ j5 j6 jX j0 jT jW jZ jP jV jY jU jO jR wJ K w4 wU h0 hc x P (y :: Q) k (by simp at hk; omega) (by simp at hm ⊢; omega) h1
   have e5 : (insR x (y :: P)).reverse ++ Q = (insR x P).reverse ++ y :: Q := by simp [insR, hlt]
   rw [e5]
   exact (congrArg _ e4).trans ih
  ·refine stF (decF (by unfold cmpI; rw [if_neg hlt]; split <;> omega)) ?_
   rw [QcH]
   have e5 : (insR x (y :: P)).reverse ++ Q = P.reverse ++ y :: x :: Q := by simp [insR, hlt]
   rw [e5]
   simp
theorem QtK (n jM wc : Nat) (wa jC wG : Int) (wk : Bool) (wg : List (List CV)) (wl : Bool) (wh : List (List CV)) (wj : List UInt8) (wi jS jQ j5 : Int) (j6 : Bool) (jX : List (List CV)) (j0 : Int) (jT : List UInt8) (jW jZ jP jV jY : Int) (jU : List UInt8) (jO : Bool) (jR wJ : List (List CV)) (K : AV → List (List (Option (List AV))) → Option CV) (h0 : jC = 0) (hc : Cmp lb n) (hn : jM < n) (h3 : wa = (jM : Int)) : ∀ (R S : List Fl) (k : Nat), R.length < k → jM = S.length + R.length → jM ≤ 1000 →
  Qbc lb n k jM wc wa jC wG wk wg wl wh wj wi jS jQ j5 j6 jX j0 jT jW jZ jP jV jY jU jO jR wJ K (S.length : Int) ((S ++ R).map flE) =
   Qbt lb n n K jM wc wa jC wk wg wl wh wj wi jS jQ j5 j6 jX j0 jT jW jZ jP jV jY jU jO jR 20 jC wG ((QeU S R).map flE)
 | [], S, k, hk, hm, h1 => by
  obtain ⟨k, rfl⟩ : ∃ m, k = m + 1 := ⟨k - 1, by simp at hk; omega⟩
  rw [QcB]
  refine stF (decF (by simp at hm; omega)) ?_
  rw [List.append_nil]; rfl
 | x :: R, S, k, hk, hm, h1 => by
  obtain ⟨k, rfl⟩ : ∃ m, k = m + 1 := ⟨k - 1, by simp at hk; omega⟩
  rw [QcB]
  refine stT (decT (by simp at hm; omega)) ?_
  have ih := QtK n jM wc wa jC wG wk wg wl wh wj wi jS jQ j5 j6 jX j0 jT jW jZ jP jV jY jU jO jR wJ K h0 hc hn h3 R (insR x S.reverse).reverse k (by simp at hk; omega) (by simp [Qhu] at hm ⊢; omega) h1
  have w1 : IntKind.wrap .i64 ((S.length : Int) + 1) = (((insR x S.reverse).reverse.length : Nat) : Int) := by
   rw [Qaz (by simp at hm; omega) (by simp at hm; omega)]; simp [Qhu]
  have st := Qvk lb n jM wc wa jC wG wk wg wl wh wj wi jS jQ j5 j6 jX j0 jT jW jZ jP jV jY jU jO jR wJ K k (S.length : Int) h0 hc x S.reverse R n (by simp at hm ⊢; omega) (by simp at hm ⊢; omega) h1
  rw [List.reverse_reverse, List.length_reverse, w1] at st
  exact st.trans ih
theorem QxO (n : Nat) (K : AV → List (List (Option (List AV))) → Option CV) (jM wc : Nat) (wa : Int) (wk : Bool) (wg : List (List CV)) (wl : Bool) (wh : List (List CV)) (wj : List UInt8) (wi jS jQ j5 : Int) (j6 : Bool) (jX : List (List CV)) (j0 : Int) (jT : List UInt8) (jW jZ jP jV jY : Int) (jU : List UInt8) (jO : Bool) (jR : List (List CV)) (jC : Int) (h0 : jC = 0) (hc : Cmp lb n) (hn : jM < n) (h3 : wa = (jM : Int)) (R : List Fl) (x : Fl) (hm : jM = R.length + 1) (h1 : jM ≤ 19) :
  QbZ lb n n K jM wc wa wk wg wl wh wj wi jS jQ j5 j6 jX j0 jT jW jZ jP jV jY jU jO jR jC 20 ((x :: R).map flE) =
   Qbt lb n n K jM wc wa jC wk wg wl wh wj wi jS jQ j5 j6 jX j0 jT jW jZ jP jV jY jU jO jR 20 jC 20 ((QeU [x] R).map flE) := by
 obtain ⟨m, rfl⟩ : ∃ m, n = m + 1 := ⟨n - 1, by omega⟩
 have w : IntKind.wrap .i64 (jC + 1) = (([x].length : Nat) : Int) := by subst h0; rfl
 rw [Qef]
 refine stF (decF (by omega)) ?_
 rw [QeF, w]
 exact QtK lb (m + 1) _ _ _ _ _ _ _ _ _ _ _ _ _ _ _ _ _ _ _ _ _ _ _ _ _ _ _ _ h0 hc hn h3 R [x] (m + 1) (by omega) (by simp; omega) (by omega)
end Go.Proofs
set_option linter.unusedSimpArgs false
set_option linter.unusedVariables false
namespace Go.Proofs
open Go.Am
variable (lb : Nat)
def Qa4 (f : Fl) (x : P3) : Fl := { f with fr := x.1, to := x.2.1, days := x.2.2 }
def wF (f : Fl) (r : Rv) : List P3 := Qcg f.fr f.to f.days r.fr r.to r.days
def QaW (f : Fl) (r : Rv) : List Fl := (wF f r).map (Qa4 f)
def insF (g : Fl) : List Fl → List Fl
 | [] => [g]
 | y :: t => if g.fr < y.fr then g :: y :: t else y :: insF g t
def idxF (g : Fl) : List Fl → Nat
 | [] => 0
 | y :: t => if g.fr < y.fr then 0 else idxF g t + 1
theorem Qvw (g : Fl) : ∀ P : List Fl, (insF g P)[idxF g P]? = some g
 | [] => rfl
 | y :: t => by
  unfold insF idxF
  split
  ·rfl
  ·simpa using Qvw g t
theorem QkN (g : Fl) : ∀ P : List Fl, (insF g P).length = P.length + 1
 | [] => rfl
 | y :: t => by
  unfold insF
  split
  ·simp
  ·simp [QkN g t]
theorem QvC (g : Fl) : ∀ A B : List Fl, (∀ y ∈ A, y.fr ≤ g.fr) → (∀ y ∈ B, g.fr < y.fr) → insF g (A ++ B) = A ++ g :: B
 | [], [], _, _ => rfl
 | [], y :: B, _, hB => by
  show insF g (y :: B) = _
  unfold insF
  rw [if_pos (hB y (by simp))]; rfl
 | y :: A, B, hA, hB => by
  show insF g (y :: (A ++ B)) = _
  have h := hA y (by simp)
  unfold insF
  rw [if_neg (by omega), QvC g A B (fun z hz => hA z (by simp [hz])) hB]; rfl
theorem Qqv (g : Fl) (M : List Fl) : ∀ L : List Fl, (∀ y ∈ L, g.fr < y.fr) → insR g (L ++ M) = L ++ insR g M
 | [], _ => rfl
 | y :: L, h => by
  show (if g.fr < y.fr then y :: insR g (L ++ M) else g :: y :: (L ++ M)) = _
  rw [if_pos (h y (by simp)), Qqv g M L (fun z hz => h z (by simp [hz]))]; rfl
theorem QtH (g : Fl) : ∀ M : List Fl, (∀ y ∈ M, y.fr ≤ g.fr) → insR g M = g :: M
 | [], _ => rfl
 | y :: M, h => by
  have := h y (by simp)
  unfold insR
  rw [if_neg (by omega)]
theorem Qxi (g : Fl) : ∀ P : List Fl, P.Pairwise (fun a b => a.fr ≤ b.fr) → ∃ A B, P = A ++ B ∧ (∀ y ∈ A, y.fr ≤ g.fr) ∧ ∀ y ∈ B, g.fr < y.fr
 | [], _ => ⟨[], [], rfl, by simp, by simp⟩
 | y :: t, h => by
  rw [List.pairwise_cons] at h
  by_cases hy : g.fr < y.fr
  ·refine ⟨[], y :: t, rfl, by simp, fun z hz => ?_⟩
   rcases List.mem_cons.1 hz with rfl | hz
   ·exact hy
   ·have := h.1 z hz; omega
  ·obtain ⟨A, B, e, hA, hB⟩ := Qxi g t h.2
   refine ⟨y :: A, B, by rw [e]; rfl, fun z hz => ?_, hB⟩
   rcases List.mem_cons.1 hz with rfl | hz
   ·omega
   ·exact hA z hz
theorem Qxr (g : Fl) (P : List Fl) (h : P.Pairwise (fun a b => a.fr ≤ b.fr)) : (insR g P.reverse).reverse = insF g P := by
 obtain ⟨A, B, rfl, hA, hB⟩ := Qxi g P h
 rw [QvC g A B hA hB, List.reverse_append, Qqv g _ B.reverse (fun y hy => hB y (by simpa using hy)), QtH g _ (fun y hy => hA y (by simpa using hy))]
 simp
theorem Qnj : ∀ (R S T : List Fl), (S ++ R).Pairwise (fun a b => a.fr ≤ b.fr) → QeU S (R ++ T) = QeU (S ++ R) T
 | [], S, T, _ => by simp
 | x :: R, S, T, h => by
  have hS : ∀ y ∈ S, y.fr ≤ x.fr := fun y hy => (List.pairwise_append.1 h).2.2 y hy x (by simp)
  show QeU (insR x S.reverse).reverse (R ++ T) = _
  rw [QtH x _ (fun y hy => hS y (by simpa using hy))]
  have e : (x :: S.reverse).reverse = S ++ [x] := by simp
  rw [e, Qnj R (S ++ [x]) T (by simpa using h)]
  simp
def Qs8 : List Fl → List Fl
 | [] => []
 | x :: R => QeU [x] R
theorem Qw7 (P : List Fl) (h : P.Pairwise (fun a b => a.fr ≤ b.fr)) : Qs8 P = P := by
 cases P with
 | nil => rfl
 | cons x R =>
  have := Qnj R [x] [] (by simpa using h)
  rw [List.append_nil] at this
  show QeU [x] R = _
  rw [this]; rfl
theorem QwZ (P : List Fl) (g : Fl) (h : P.Pairwise (fun a b => a.fr ≤ b.fr)) : Qs8 (P ++ [g]) = insF g P := by
 cases P with
 | nil => rfl
 | cons x R =>
  have := Qnj R [x] [g] (by simpa using h)
  show QeU [x] (R ++ [g]) = _
  rw [this]
  exact Qxr g (x :: R) h
theorem QxP {l : List Int} {x : P3} (h : ofF l = some x) : x.1 ∈ l := by
 cases l with
 | nil => cases h
 | cons a r => cases h; simp
theorem QwX (f : Fl) (r : Rv) : (QaW f r).Pairwise (fun a b => a.fr ≤ b.fr) := by
 have key : (wF f r).Pairwise (fun a b => a.1 ≤ b.1) := by
  unfold wF Qcg Qe3
  split
  ·rename_i h
   obtain ⟨b0, b1, b2, b3, b4, b5⟩ := Qe1 h
   have m1 : ∀ (lo hi : Int) (x : P3), ofF ((Qat f.fr f.to f.days).filter (QbI lo hi r.fr r.to r.days)) = some x → lo ≤ x.1 ∧ x.1 ≤ hi := fun lo hi x hx => by
    have := (List.mem_filter.1 (QxP hx)).2
    unfold QbI at this
    simp only [Bool.and_eq_true, decide_eq_true_eq] at this
    omega
   have a1 := m1 0 (r.fr - 1)
   have a2 := m1 r.fr r.to
   have a3 := m1 (r.to + 1) 36525
   simp only [List.filterMap_cons, List.filterMap_nil]
   generalize ofF ((Qat f.fr f.to f.days).filter (QbI 0 (r.fr - 1) r.fr r.to r.days)) = o1 at a1
   generalize ofF ((Qat f.fr f.to f.days).filter (QbI r.fr r.to r.fr r.to r.days)) = o2 at a2
   generalize ofF ((Qat f.fr f.to f.days).filter (QbI (r.to + 1) 36525 r.fr r.to r.days)) = o3 at a3
   cases o1 with
   | none =>
    cases o2 with
    | none => cases o3 <;> simp
    | some y =>
     have c2 := a2 y rfl
     cases o3 with
     | none => simp
     | some z => have c3 := a3 z rfl; simp; omega
   | some x =>
    have c1 := a1 x rfl
    cases o2 with
    | none =>
     cases o3 with
     | none => simp
     | some z => have c3 := a3 z rfl; simp; omega
    | some y =>
     have c2 := a2 y rfl
     cases o3 with
     | none => simp; omega
     | some z => have c3 := a3 z rfl; simp; omega
  ·simp only [List.filterMap_cons, List.filterMap_nil]
   cases ofF (Qat f.fr f.to f.days) <;> simp
 unfold QaW
 rw [List.pairwise_map]
 exact key
theorem QgC (f : Fl) (r : Rv) : (wF f r).length ≤ 3 := by
 unfold wF Qcg
 exact Nat.le_trans (List.length_filterMap_le _ _) (QrW f.fr f.to f.days r.fr r.to r.days).1
def wcv (l : List P3) : CV := .list l.isEmpty (pl3 l)
theorem Qm0 (n k : Nat) (f : Fl) (r : Rv) (ws : List P3) (wn yg x23 : CV) (q : P3) (out : List Fl) (ho : out.length ≤ 1000) (at_ : Int) (p : List P3) (x : P3) (t : List P3) (h : p ++ x :: t = ws) :
  Qdm lb n k f.car f.num f.fr f.to f.days f.ln (f.legs.map lgcv) r.kind r.car r.num r.fr r.to r.days r.min r.eq r.ln (r.legs.map lgcv) (wcv ws) wn (p.length : Int) yg x23 (.int .i64 q.1) (.int .i64 q.2.1) (.int .i64 q.2.2) out.isEmpty (out.map flE) at_ =
   QdO lb n k f.car f.num f.fr f.to f.days f.ln (f.legs.map lgcv) r.kind r.car r.num r.fr r.to r.days r.min r.eq r.ln (r.legs.map lgcv) (wcv ws) wn yg x23 (.int .i64 q.1) (.int .i64 q.2.1) (.int .i64 q.2.2) (out ++ [Qa4 f x]).isEmpty ((out ++ [Qa4 f x]).map flE) at_ (IntKind.wrap .i64 ((p.length : Int) + 1)) := by
 have hg : (pl3 ws)[p.length]? = some (pcv3 x) := by rw [← h]; simp [pl3]
 have hlt : (p.length : Int) < ((pl3 ws).length : Int) := by rw [← h]; simp [pl3]; omega
 rw [QjR]
 refine stO _ rfl (stT (decT hlt) (stO _ rfl (stO _ (QaN hg) (stC rfl (stO _ rfl (stO _ rfl (stO _ rfl (stC (Qa8 (by simp; omega) (by omega)) ?_))))))))
 rw [Qbr out (Qa4 f x), List.map_append]
 rfl
theorem Qp8 (n k : Nat) (f : Fl) (r : Rv) (ws : List P3) (hw : ws.length ≤ 1000) (wn yg x23 : CV) (q : P3) (b : Bool) (out : List (List CV)) (at_ : Int) :
  Qdm lb n (k + 1) f.car f.num f.fr f.to f.days f.ln (f.legs.map lgcv) r.kind r.car r.num r.fr r.to r.days r.min r.eq r.ln (r.legs.map lgcv) (wcv ws) wn (ws.length : Int) yg x23 (.int .i64 q.1) (.int .i64 q.2.1) (.int .i64 q.2.2) b out at_ = some (.tup [.list b out, .int .i64 at_]) := by
 rw [QjR]
 refine stO _ rfl (stF (decF (by simp [pl3])) ?_)
 rw [Qdx, Qaz (by omega) (by omega)]
 refine stO _ rfl (stF (decF (by simp [pl3]; omega)) ?_)
 rw [Qqs]
theorem Qku (n : Nat) (f : Fl) (r : Rv) (ws : List P3) (hw : ws.length ≤ 900) (wn yg x23 : CV) (q : P3) (at_ : Int) (hat : 0 ≤ at_ ∨ r.kind = 2) : ∀ (t p : List P3) (k : Nat) (out : List Fl), p ++ t = ws → out.length ≤ p.length + 1 → t.length + 1 < k →
  QdO lb n k f.car f.num f.fr f.to f.days f.ln (f.legs.map lgcv) r.kind r.car r.num r.fr r.to r.days r.min r.eq r.ln (r.legs.map lgcv) (wcv ws) wn yg x23 (.int .i64 q.1) (.int .i64 q.2.1) (.int .i64 q.2.2) out.isEmpty (out.map flE) at_ (p.length : Int) =
   some (.tup [.list (out ++ t.map (Qa4 f)).isEmpty ((out ++ t.map (Qa4 f)).map flE), .int .i64 at_])
 | [], p, k, out, h, hout, hk => by
  obtain ⟨k, rfl⟩ : ∃ m, k = m + 2 := ⟨k - 2, by simp at hk; omega⟩
  have hp : p = ws := by simpa using h
  subst hp
  have z := Qp8 lb n k f r p (by omega) wn yg x23 q out.isEmpty (out.map flE) at_
  rw [Qdx]
  rw [List.map_nil, List.append_nil]
  refine stO _ rfl (stT (decT (by simp [pl3])) ?_)
  by_cases ha : at_ < 0
  ·have h2 : r.kind = 2 := by omega
   exact stT (decT ha) (stF (bneF h2) z)
  ·exact stF (decF ha) z
 | x :: t, p, k, out, h, hout, hk => by
  obtain ⟨k, rfl⟩ : ∃ m, k = m + 1 := ⟨k - 1, by simp at hk; omega⟩
  have hlen : ws.length = p.length + (t.length + 1) := by rw [← h]; simp
  have hw1 : IntKind.wrap .i64 ((p.length : Int) + 1) = ((p ++ [x]).length : Int) := by rw [Qaz (by omega) (by omega)]; simp
  have z := Qm0 lb n k f r ws wn yg x23 q out (by omega) at_ p x t h
  have ih := Qku n f r ws hw wn yg x23 q at_ hat t (p ++ [x]) k (out ++ [Qa4 f x]) (by rw [← h]; simp) (by simp; omega) (by simp at hk; omega)
  rw [hw1] at z
  have z := z.trans ih
  rw [List.append_assoc] at z
  rw [Qdx]
  refine stO _ rfl (stT (decT (by simp [pl3]; omega)) ?_)
  by_cases ha : at_ < 0
  ·have h2 : r.kind = 2 := by omega
   exact stT (decT ha) (stF (bneF h2) z)
  ·exact stF (decF ha) z
theorem QoQ (n : Nat) (f : Fl) (r : Rv) (ws : List P3) (hw : ws.length ≤ 900) (wn yg x23 : CV) (q : P3) (h2 : r.kind ≠ 2) (hc : C lb n Qaq [flcv f, rvcv r, .agg (pcv3 q)] = some (flcv (Qap r f q))) (hq : (Qap r f q).fr = q.1) : ∀ (t p : List P3) (k : Nat), p ++ t = ws → t.length + 1 < k →
  QdO lb n k f.car f.num f.fr f.to f.days f.ln (f.legs.map lgcv) r.kind r.car r.num r.fr r.to r.days r.min r.eq r.ln (r.legs.map lgcv) (wcv ws) wn yg x23 (.int .i64 q.1) (.int .i64 q.2.1) (.int .i64 q.2.2) (p.map (Qa4 f)).isEmpty ((p.map (Qa4 f)).map flE) (-1) (p.length : Int) =
   some (.tup [.list false ((p.map (Qa4 f) ++ insF (Qap r f q) (t.map (Qa4 f))).map flE), .int .i64 ((p.length + idxF (Qap r f q) (t.map (Qa4 f)) : Nat) : Int)])
 | [], p, k, h, hk => by
  obtain ⟨k, rfl⟩ : ∃ m, k = m + 2 := ⟨k - 2, by simp at hk; omega⟩
  have hp : p = ws := by simpa using h
  subst hp
  have z := Qp8 lb n k f r p (by omega) wn yg x23 q ((p.map (Qa4 f)).isEmpty && false) ((p.map (Qa4 f)).map flE ++ [flE (Qap r f q)]) (((p.map (Qa4 f)).map flE).length : Int)
  rw [Qdx]
  refine stO _ rfl (stT (decT (by simp [pl3])) (stT rfl (stT (bneT h2) (stO _ rfl (stT (beqT (by simp [pl3])) (stO _ hc (stO _ rfl (stC rfl (stO _ rfl (stO _ rfl (stO _ rfl (stO _ rfl (stO _ rfl (stO _ rfl (stC (Qa8 (by simp; omega) (by omega)) (z.trans ?_))))))))))))))))
  simp [insF, idxF]
 | x :: t, p, k, h, hk => by
  obtain ⟨k, rfl⟩ : ∃ m, k = m + 1 := ⟨k - 1, by simp at hk; omega⟩
  have hlen : ws.length = p.length + (t.length + 1) := by rw [← h]; simp
  have hw1 : IntKind.wrap .i64 ((p.length : Int) + 1) = ((p ++ [x]).length : Int) := by rw [Qaz (by omega) (by omega)]; simp
  have hg : (pl3 ws)[p.length]? = some (pcv3 x) := by rw [← h]; simp [pl3]
  rw [Qdx]
  refine stO _ rfl (stT (decT (by simp [pl3]; omega)) (stT rfl (stT (bneT h2) (stO _ rfl (stF (beqF (by simp [pl3]; omega)) (stO _ rfl (stO _ (QaN hg) (stC rfl (stO _ rfl (stO _ (QaD ..) (stO _ (QaD ..) ?_)))))))))))
  by_cases hx : x.1 > q.1
  ·have z := Qm0 lb n k f r ws wn yg x23 q (p.map (Qa4 f) ++ [Qap r f q]) (by simp; omega) (((p.map (Qa4 f)).map flE).length : Int) p x t h
   have tl := Qku lb n f r ws hw wn yg x23 q (((p.map (Qa4 f)).map flE).length : Int) (by left; omega) t (p ++ [x]) k ((p.map (Qa4 f) ++ [Qap r f q]) ++ [Qa4 f x]) (by rw [← h]; simp) (by simp) (by simp at hk; omega)
   rw [hw1] at z
   have z := z.trans tl
   rw [← Qbr (p.map (Qa4 f)) (Qap r f q) ((p.map (Qa4 f)).isEmpty), List.map_append (l₁ := p.map (Qa4 f)) (l₂ := [Qap r f q])] at z
   refine stT (decT hx) (stO _ hc (stO _ rfl (stC rfl (stO _ rfl (stO _ rfl (stO _ rfl (stO _ rfl (stO _ rfl (stO _ rfl (stC (Qa8 (by simp; omega) (by omega)) (z.trans ?_)))))))))))
   have hi : insF (Qap r f q) ((x :: t).map (Qa4 f)) = Qap r f q :: (x :: t).map (Qa4 f) := by
    rw [List.map_cons]; unfold insF; rw [if_pos (by rw [hq]; exact hx)]
   have hj : idxF (Qap r f q) ((x :: t).map (Qa4 f)) = 0 := by
    rw [List.map_cons]; unfold idxF; rw [if_pos (by rw [hq]; exact hx)]
   rw [hi, hj]
   simp
  ·have z := Qm0 lb n k f r ws wn yg x23 q (p.map (Qa4 f)) (by simp; omega) (-1) p x t h
   have ih := QoQ n f r ws hw wn yg x23 q h2 hc hq t (p ++ [x]) k (by rw [← h]; simp) (by simp at hk; omega)
   rw [hw1] at z
   have e : (p ++ [x]).map (Qa4 f) = p.map (Qa4 f) ++ [Qa4 f x] := by simp
   rw [e] at ih
   have z := z.trans ih
   have hi : insF (Qap r f q) ((x :: t).map (Qa4 f)) = Qa4 f x :: insF (Qap r f q) (t.map (Qa4 f)) := by
    rw [List.map_cons]; rw [insF]; rw [if_neg (by rw [hq]; exact hx)]
   have hj : idxF (Qap r f q) ((x :: t).map (Qa4 f)) = idxF (Qap r f q) (t.map (Qa4 f)) + 1 := by
    rw [List.map_cons]; rw [idxF]; rw [if_neg (by rw [hq]; exact hx)]
   rw [hi, hj]
   refine stF (decF hx) (z.trans ?_)
   have e3 : (p ++ [x]).length + idxF (Qap r f q) (t.map (Qa4 f)) = p.length + (idxF (Qap r f q) (t.map (Qa4 f)) + 1) := by simp; omega
   rw [e3, List.append_assoc]; rfl
theorem Qwb (r : Rv) (f : Fl) (q : P3) : (Qap r f q).fr = q.1 := by unfold Qap; split <;> rfl
def QbP (f : Fl) (r : Rv) (q : P3) : List Fl × Int :=
 if r.kind = 2 then (QaW f r, -1) else (insF (Qap r f q) (QaW f r), (idxF (Qap r f q) (QaW f r) : Nat))
theorem QsT (f : Fl) (r : Rv) (q : P3) (hl : f.legs.length ≤ 1000) (hq : QiH f r = some q) : Ret lb QaX [flcv f, rvcv r] (.tup [.list (QbP f r q).1.isEmpty ((QbP f r q).1.map flE), .int .i64 (QbP f r q).2]) := by
 have hq' : QdY f.fr f.to f.days r.fr r.to r.days = some q := hq
 have w := QgC f r
 refine .top rfl (Evt.imp2 ((QpV lb f.fr f.to f.days r.fr r.to r.days).and (Qi6 lb f.fr f.to f.days r.fr r.to r.days)) ((Qp1 lb f r q hl).and (Evt.ge 10)) fun n ⟨h1, h2⟩ ⟨h3, hn⟩ => ?_)
 rw [hq'] at h2
 rw [QtJ]
 refine stO _ h1 (stO _ h2 (stO _ rfl (stO _ rfl (stO _ rfl (stO _ rfl (stO _ rfl (stC rfl (stO _ rfl (stO _ rfl (stO _ rfl ?_))))))))))
 unfold QbP
 by_cases hk : r.kind = 2
 ·rw [if_pos hk]
  exact Qku lb n f r (wF f r) (by omega) (.bool true) (optP (some q)) (.agg (pcv3 q)) q (-1) (.inr hk) (wF f r) [] n [] rfl (by simp) (by omega)
 ·rw [if_neg hk]
  have z := QoQ lb n f r (wF f r) (by omega) (.bool true) (optP (some q)) (.agg (pcv3 q)) q hk h3 (Qwb r f q) (wF f r) [] n rfl (by omega)
  refine z.trans ?_
  have hne : (insF (Qap r f q) (QaW f r)).isEmpty = false := by
   cases h : insF (Qap r f q) (QaW f r) with
   | nil => have := QkN (Qap r f q) (QaW f r); rw [h] at this; simp at this
   | cons => rfl
  show _ = some (CV.tup [.list (insF (Qap r f q) (QaW f r)).isEmpty ((insF (Qap r f q) (QaW f r)).map flE), .int .i64 ((idxF (Qap r f q) (QaW f r) : Nat) : Int)])
  rw [hne]
  unfold QaW
  simp
end Go.Proofs
set_option linter.unusedSimpArgs false
set_option linter.unusedVariables false
set_option maxRecDepth 100000
namespace Go.Proofs
open Go.Am
variable (lb : Nat)
theorem Qya (lb n : Nat) : QpR Tryz.prog KK (L lb) (n + 30) Qao [.list true [], .fn Qae] = some (.tup []) := by kernel_rfl
theorem QtF : Ret lb Qao [.list true [], .fn Qae] (.tup []) := Evt.from 30 fun n => by
 show Qdk Tryz.prog KK (L lb) (n + 30) Qao _ = _
 rw [Quj]
 exact Qya lb n
def Qci (p : Pc) (f : Fl) (r : Rv) (q : P3) : List Fl × Int :=
 if r.kind = 2 then (QaW f r, 0) else match QaY p (Qap r f q) with
  | e :: _ => ([], e.1)
  | [] => (insF (Qap r f q) (QaW f r), 0)
def Qd7 (x : List Fl × Int) : CV := .tup [.list x.1.isEmpty (x.1.map flE), .int .i64 x.2]
theorem Qyb (n : Nat) (p : Pc) (f : Fl) (r : Rv) (hc : Cmp lb n) (P : List Fl) (g : Fl) (hP : P.length ≤ 10) (hn : P.length + 1 < n) (hP0 : P ≠ []) (oW : CV) :
  Qbn lb n (Qej lb n P.length p.an (p.aps.map apcv) p.dn (p.dis.map dicv) f.car f.num f.fr f.to f.days f.ln (f.legs.map lgcv) r.kind r.car r.num r.fr r.to r.days r.min r.eq r.ln (r.legs.map lgcv) (P.map flE) (.str g.car) (.int .i64 g.num) (.int .i64 g.fr) (.int .i64 g.to) (.int .i64 g.days) (.list g.ln (g.legs.map lgcv)) oW) (P.length + 1) (P.length + 1) ((P.length + 1 : Nat) : Int) p.an (p.aps.map apcv) p.dn (p.dis.map dicv) f.car f.num f.fr f.to f.days f.ln (f.legs.map lgcv) r.kind r.car r.num r.fr r.to r.days r.min r.eq r.ln (r.legs.map lgcv) (P.map flE ++ [[.str g.car, .int .i64 g.num, .int .i64 g.fr, .int .i64 g.to, .int .i64 g.days, .list g.ln (g.legs.map lgcv)]]) (.str g.car) (.int .i64 g.num) (.int .i64 g.fr) (.int .i64 g.to) (.int .i64 g.days) (.list g.ln (g.legs.map lgcv)) =
   some (.tup [.list false ((Qs8 (P ++ [g])).map flE), .int .i64 0]) := by
 obtain ⟨x, R, rfl⟩ : ∃ x R, P = x :: R := by cases P with | nil => exact absurd rfl hP0 | cons x R => exact ⟨x, R, rfl⟩
 obtain ⟨m, rfl⟩ : ∃ m, n = m + 1 := ⟨n - 1, by omega⟩
 rw [Qc9]
 have st := Qvu lb (m + 1) (K := Qej lb (m + 1) (x :: R).length p.an (p.aps.map apcv) p.dn (p.dis.map dicv) f.car f.num f.fr f.to f.days f.ln (f.legs.map lgcv) r.kind r.car r.num r.fr r.to r.days r.min r.eq r.ln (r.legs.map lgcv) ((x :: R).map flE) (.str g.car) (.int .i64 g.num) (.int .i64 g.fr) (.int .i64 g.to) (.int .i64 g.days) (.list g.ln (g.legs.map lgcv)) oW)
  ((x :: R).length + 1) ((x :: R).length + 1) (((x :: R).length + 1 : Nat) : Int) p.an (p.aps.map apcv) p.dn (p.dis.map dicv) f.car f.num f.fr f.to f.days f.ln (f.legs.map lgcv) r.kind r.car r.num r.fr r.to r.days r.min r.eq r.ln (r.legs.map lgcv) (.str g.car) (.int .i64 g.num) (.int .i64 g.fr) (.int .i64 g.to) (.int .i64 g.days) (.list g.ln (g.legs.map lgcv)) 0 rfl hc (by omega) rfl (R ++ [g]) x (by simp) (by simp at hP ⊢; omega)
 have e : (x :: R).map flE ++ [[CV.str g.car, .int .i64 g.num, .int .i64 g.fr, .int .i64 g.to, .int .i64 g.days, .list g.ln (g.legs.map lgcv)]] = (x :: (R ++ [g])).map flE := by simp [flE]
 rw [e, st, QcK]
 refine stF (decF (by simp at hP ⊢; omega)) ?_
 rw [Qls]
 have hl : (QeU [x] (R ++ [g])).length = (x :: R).length + 1 := by rw [QmL]; simp; omega
 refine stC (decT (by rw [List.length_map, hl]; omega)) ?_
 rw [List.drop_zero, List.take_of_length_le (by rw [List.length_map, hl]; exact Nat.le_refl _)]
 rfl
 all_goals exact false
theorem Qyj (n : Nat) (p : Pc) (f : Fl) (r : Rv) (hc : Cmp lb n) (P : List Fl) (hP : P.length ≤ 10) (hn : P.length + 1 < n) (hP0 : P ≠ []) :
  Qch lb n (Qeo lb n P.length P.length p.an (p.aps.map apcv) p.dn (p.dis.map dicv) f.car f.num f.fr f.to f.days f.ln (f.legs.map lgcv) r.kind r.car r.num r.fr r.to r.days r.min r.eq r.ln (r.legs.map lgcv) (P.map flE)) P.length P.length ((P.length : Nat) : Int) p.an (p.aps.map apcv) p.dn (p.dis.map dicv) f.car f.num f.fr f.to f.days f.ln (f.legs.map lgcv) r.kind r.car r.num r.fr r.to r.days r.min r.eq r.ln (r.legs.map lgcv) (P.map flE) =
   some (.tup [.list false ((Qs8 P).map flE), .int .i64 0]) := by
 obtain ⟨x, R, rfl⟩ : ∃ x R, P = x :: R := by cases P with | nil => exact absurd rfl hP0 | cons x R => exact ⟨x, R, rfl⟩
 obtain ⟨m, rfl⟩ : ∃ m, n = m + 1 := ⟨n - 1, by omega⟩
 rw [QeW]
 have st := QxO lb (m + 1) (K := Qeo lb (m + 1) (x :: R).length (x :: R).length p.an (p.aps.map apcv) p.dn (p.dis.map dicv) f.car f.num f.fr f.to f.days f.ln (f.legs.map lgcv) r.kind r.car r.num r.fr r.to r.days r.min r.eq r.ln (r.legs.map lgcv) ((x :: R).map flE))
  (x :: R).length (x :: R).length (((x :: R).length : Nat) : Int) p.an (p.aps.map apcv) p.dn (p.dis.map dicv) f.car f.num f.fr f.to f.days f.ln (f.legs.map lgcv) r.kind r.car r.num r.fr r.to r.days r.min r.eq r.ln (r.legs.map lgcv) 0 rfl hc (by omega) rfl R x (by simp) (by simp at hP ⊢; omega)
 rw [st, Qeg]
 refine stF (decF (by simp at hP ⊢; omega)) ?_
 rw [Qlx]
 have hl : (QeU [x] R).length = (x :: R).length := by rw [QmL]; simp; omega
 refine stC (decT (by rw [List.length_map, hl]; omega)) ?_
 rw [List.drop_zero, List.take_of_length_le (by rw [List.length_map, hl]; omega)]
 rfl
 all_goals exact false
theorem Qyg (n : Nat) (p : Pc) (f : Fl) (r : Rv) (hc : Cmp lb n) (g : Fl) (hn : 2 < n) (o5 : CV) :
  Qbn lb n (Qeq lb n p.an (p.aps.map apcv) p.dn (p.dis.map dicv) f.car f.num f.fr f.to f.days f.ln (f.legs.map lgcv) r.kind r.car r.num r.fr r.to r.days r.min r.eq r.ln (r.legs.map lgcv) (.str g.car) (.int .i64 g.num) (.int .i64 g.fr) (.int .i64 g.to) (.int .i64 g.days) (.list g.ln (g.legs.map lgcv)) o5) 1 1 1 p.an (p.aps.map apcv) p.dn (p.dis.map dicv) f.car f.num f.fr f.to f.days f.ln (f.legs.map lgcv) r.kind r.car r.num r.fr r.to r.days r.min r.eq r.ln (r.legs.map lgcv) [[.str g.car, .int .i64 g.num, .int .i64 g.fr, .int .i64 g.to, .int .i64 g.days, .list g.ln (g.legs.map lgcv)]] (.str g.car) (.int .i64 g.num) (.int .i64 g.fr) (.int .i64 g.to) (.int .i64 g.days) (.list g.ln (g.legs.map lgcv)) =
   some (.tup [.list false ([g].map flE), .int .i64 0]) := by
 obtain ⟨m, rfl⟩ : ∃ m, n = m + 1 := ⟨n - 1, by omega⟩
 rw [Qc9]
 have st := Qvu lb (m + 1) (K := Qeq lb (m + 1) p.an (p.aps.map apcv) p.dn (p.dis.map dicv) f.car f.num f.fr f.to f.days f.ln (f.legs.map lgcv) r.kind r.car r.num r.fr r.to r.days r.min r.eq r.ln (r.legs.map lgcv) (.str g.car) (.int .i64 g.num) (.int .i64 g.fr) (.int .i64 g.to) (.int .i64 g.days) (.list g.ln (g.legs.map lgcv)) o5)
  1 1 1 p.an (p.aps.map apcv) p.dn (p.dis.map dicv) f.car f.num f.fr f.to f.days f.ln (f.legs.map lgcv) r.kind r.car r.num r.fr r.to r.days r.min r.eq r.ln (r.legs.map lgcv) (.str g.car) (.int .i64 g.num) (.int .i64 g.fr) (.int .i64 g.to) (.int .i64 g.days) (.list g.ln (g.legs.map lgcv)) 0 rfl hc (by omega) rfl [] g (by simp) (by omega)
 have e : [[CV.str g.car, .int .i64 g.num, .int .i64 g.fr, .int .i64 g.to, .int .i64 g.days, .list g.ln (g.legs.map lgcv)]] = (g :: []).map flE := by simp [flE]
 rw [e, st, QcK]
 refine stF (decF (by omega)) ?_
 rw [QlR]
 exact stC rfl rfl
 all_goals exact false
theorem QxL (n : Nat) (p : Pc) (f : Fl) (r : Rv) (q : P3) (hc : Cmp lb n) (hn : 2 < n) (hw : QaW f r = [])
  (h1 : r.kind ≠ 2 → C lb n Qau [flcv f, rvcv r] = some (flcv (Qap r f q)))
  (h2 : C lb n Qai [pcv p, flcv (Qap r f q)] = some (Qb6 (QaY p (Qap r f q))))
  (h3 : C lb n Qao [.list true [], .fn Qae] = some (.tup [])) :
  QfY lb n p.an (p.aps.map apcv) p.dn (p.dis.map dicv) f.car f.num f.fr f.to f.days f.ln (f.legs.map lgcv) r.kind r.car r.num r.fr r.to r.days r.min r.eq r.ln (r.legs.map lgcv) = some (Qd7 (Qci p f r q)) := by
 rw [Qlw]
 unfold Qci
 by_cases hk : r.kind = 2
 ·rw [if_pos hk, hw]
  exact stF (bneF hk) (stO _ h3 rfl)
 ·rw [if_neg hk, hw]
  have h1 := h1 hk
  generalize Qap r f q = g at h1 h2
  refine stT (bneT hk) (stO _ h1 (stO _ rfl (stC rfl (stO _ rfl (stO _ rfl (stO _ rfl (stO _ rfl (stO _ rfl (stO _ rfl (stO _ h2 (stO _ rfl ?_)))))))))))
  cases hch : QaY p g with
  | nil => exact stF (decF (by simp)) (Qyg lb n p f r hc g hn _)
  | cons e t => exact stT (decT (by simp)) (stO _ rfl (stO _ rfl (stC rfl (stO _ rfl rfl))))
theorem Qx4 (n : Nat) (p : Pc) (f : Fl) (r : Rv) (q : P3) (hc : Cmp lb n) (hn : 10 < n) (hw : QaW f r ≠ [])
  (h1 : r.kind ≠ 2 → C lb n Qau [flcv f, rvcv r] = some (flcv (Qap r f q)))
  (h2 : C lb n Qai [pcv p, flcv (Qap r f q)] = some (Qb6 (QaY p (Qap r f q)))) :
  Qek lb n p.an (p.aps.map apcv) p.dn (p.dis.map dicv) f.car f.num f.fr f.to f.days f.ln (f.legs.map lgcv) r.kind r.car r.num r.fr r.to r.days r.min r.eq r.ln (r.legs.map lgcv) (QaW f r).length (QaW f r).length ((QaW f r).map flE) = some (Qd7 (Qci p f r q)) := by
 have hlen : (QaW f r).length ≤ 3 := by unfold QaW; rw [List.length_map]; exact QgC f r
 have asc := QwX f r
 rw [QlF]
 unfold Qci
 generalize QaW f r = P at hw hlen asc
 by_cases hk : r.kind = 2
 ·rw [if_pos hk]
  have z := Qyj lb n p f r hc P (by omega) (by omega) hw
  rw [Qw7 P asc] at z
  refine stF (bneF hk) (z.trans ?_)
  have : P.isEmpty = false := by simpa using hw
  unfold Qd7; rw [this]
 ·rw [if_neg hk]
  have h1 := h1 hk
  generalize Qap r f q = g at h1 h2
  refine stT (bneT hk) (stO _ h1 (stO _ rfl (stC rfl (stO _ rfl (stO _ rfl (stO _ rfl (stO _ rfl (stO _ rfl (stO _ rfl (stO _ h2 (stO _ rfl ?_)))))))))))
  cases hch : QaY p g with
  | nil =>
   have z := Qyb lb n p f r hc P g (by omega) (by omega) hw (Qb6 [])
   rw [QwZ P g asc] at z
   refine stF (decF (by simp)) (stC (decT (by simp)) (stC (Qa8 (by omega) (by omega)) (z.trans ?_)))
   have : (insF g P).isEmpty = false := by
    cases h : insF g P with
    | nil => have := QkN g P; rw [h] at this; simp at this
    | cons => rfl
   unfold Qd7; rw [this]
  | cons e t => exact stT (decT (by simp)) (stO _ rfl (stO _ rfl (stC rfl (stO _ rfl rfl))))
theorem Quk (n : Nat) (p : Pc) (f : Fl) (r : Rv) (q : P3) (hw : QaW f r ≠ [])
  (hJ : Qek lb n p.an (p.aps.map apcv) p.dn (p.dis.map dicv) f.car f.num f.fr f.to f.days f.ln (f.legs.map lgcv) r.kind r.car r.num r.fr r.to r.days r.min r.eq r.ln (r.legs.map lgcv) (QaW f r).length (QaW f r).length ((QaW f r).map flE) = some (Qd7 (Qci p f r q))) : ∀ (t u : List P3) (k : Nat), u ++ t = wF f r → u ≠ [] → t.length < k →
  Qem lb n k p.an (p.aps.map apcv) p.dn (p.dis.map dicv) f.car f.num f.fr f.to f.days f.ln (f.legs.map lgcv) r.kind r.car r.num r.fr r.to r.days r.min r.eq r.ln (r.legs.map lgcv) (wcv (wF f r)) ((wF f r).isEmpty, pl3 (wF f r)) u.length u.length (u.length : Int) ((u.map (Qa4 f)).map flE) = some (Qd7 (Qci p f r q))
 | [], u, k, h, hu, hk => by
  obtain ⟨k, rfl⟩ : ∃ m, k = m + 1 := ⟨k - 1, by simp at hk; omega⟩
  have hp : u = wF f r := by simpa using h
  rw [Qf6]
  refine stF (decF (by rw [← hp]; simp [pl3])) ?_
  have e : u.length = (QaW f r).length := by rw [hp]; simp [QaW]
  rw [e, hp]
  exact hJ
 | x :: t, u, k, h, hu, hk => by
  obtain ⟨k, rfl⟩ : ∃ m, k = m + 1 := ⟨k - 1, by simp at hk; omega⟩
  have h3 := QgC f r
  have hlen : (wF f r).length = u.length + (t.length + 1) := by rw [← h]; simp
  have hw1 : IntKind.wrap .i64 ((u.length : Int) + 1) = ((u ++ [x]).length : Int) := by rw [Qaz (by omega) (by omega)]; simp
  have hg : (pl3 (wF f r))[u.length]? = some (pcv3 x) := by rw [← h]; simp [pl3]
  have ih := Quk n p f r q hw hJ t (u ++ [x]) k (by rw [← h]; simp) (by simp) (by simp at hk; omega)
  rw [Qf6]
  refine stT (decT (by simp [pl3]; omega)) (stO _ rfl (stO _ (QaN hg) (stC rfl (stO _ rfl (stO _ rfl (stO _ rfl (stC (decT (by simp)) (stC (Qa8 (by omega) (by omega)) ?_))))))))
  rw [hw1]
  have e1 : (u ++ [x]).length = u.length + 1 := by simp
  have e2 : ((u ++ [x]).map (Qa4 f)).map flE = (u.map (Qa4 f)).map flE ++ [flE (Qa4 f x)] := by simp
  rw [e2] at ih
  rw [e1] at ih ⊢
  exact ih
theorem Qmp (p : Pc) (hp : QbT p) (f : Fl) (r : Rv) (q : P3) (hl : f.legs.length ≤ 1000) (hk : r.kind = 2 ∨ r.kind = 3 ∨ r.kind = 4 ∨ r.kind = 5) (hln : f.ln = false) (hne : f.legs ≠ []) (hq : QiH f r = some q)
  (hg1 : (Qap r f q).car.length ≤ 281474976710656) (hg2 : ∀ x ∈ (Qap r f q).legs, x.eq.length ≤ 281474976710656) :
  Ret lb Qan [pcv p, flcv f, rvcv r] (Qd7 (Qci p f r q)) := by
 have a1 : Evt fun n => r.kind ≠ 2 → C lb n Qau [flcv f, rvcv r] = some (flcv (Qap r f q)) := by
  by_cases h2 : r.kind = 2
  ·exact .all fun n h => absurd h2 h
  ·exact (QlG lb f r q hl (by omega) hln hne hq).mono fun n h _ => h
 have h3 := QgC f r
 refine .top rfl (Evt.imp2 ((QnE lb f.fr f.to f.days r.fr r.to r.days).and (Evt.and a1 (Evt.and (Qzh lb) (Evt.ge 20)))) ((Qjr lb p hp (Qap r f q) hg1 hg2).and (QtF lb)) fun n ⟨b1, b2, b3, b4⟩ ⟨b5, b6⟩ => ?_)
 rw [Qn7]
 refine stO _ b1 (stO _ rfl ?_)
 obtain ⟨m, rfl⟩ : ∃ m, n = m + 1 := ⟨n - 1, by omega⟩
 rw [Qky]
 cases hw : wF f r with
 | nil =>
  have hw' : Qcg f.fr f.to f.days r.fr r.to r.days = [] := hw
  rw [hw']
  exact stF (decF (by simp [pl3])) (QxL lb (m + 1) p f r q b3 (by omega) (by unfold QaW; rw [hw]; rfl) b2 b5 b6)
 | cons x t =>
  have hJ := Qx4 lb (m + 1) p f r q b3 (by omega) (by unfold QaW; rw [hw]; simp) b2 b5
  have L := Quk lb (m + 1) p f r q (by unfold QaW; rw [hw]; simp) hJ t [x] m (by rw [hw]; rfl) (by simp) (by rw [hw] at h3; simp at h3; omega)
  have hw' : Qcg f.fr f.to f.days r.fr r.to r.days = x :: t := hw
  rw [hw] at L
  rw [hw']
  exact stT (decT (by simp [pl3])) (stO _ rfl (stO _ rfl (stC rfl (stO _ rfl (stO _ rfl (stO _ rfl L))))))
end Go.Proofs
set_option linter.unusedSimpArgs false
set_option linter.unusedVariables false
namespace Go.Proofs
open Go.Am
variable (lb : Nat)
structure OkF (f : Fl) : Prop where
 ln : f.ln = false
 ne : f.legs ≠ []
 len : f.legs.length ≤ 100
 car : f.car.length ≤ 1000000
 eq : ∀ x ∈ f.legs, x.eq.length ≤ 1000000
structure OkR (r : Rv) : Prop where
 car : r.car.length ≤ 1000000
 eq1 : r.eq.length ≤ 1000000
 eq : ∀ x ∈ r.legs, x.eq.length ≤ 1000000
def Qdz (r : Rv) : Fl := ⟨r.car, r.num, r.fr, r.to, r.days, r.ln, r.legs⟩
def qOf (f : Fl) (r : Rv) : P3 := (QiH f r).getD (0, 0, 0)
theorem Qtd {f : Fl} {r : Rv} (h : QbJ f r = true) : QiH f r = some (qOf f r) := by
 unfold QbJ at h
 simp only [Bool.and_eq_true] at h
 unfold qOf
 cases hm : QiH f r with
 | none => rw [hm] at h; simp at h
 | some x => rfl
theorem QqV {f : Fl} {r : Rv} (hf : OkF f) (hr : OkR r) (q : P3) : (Qap r f q).car.length ≤ 1000000 ∧ ∀ x ∈ (Qap r f q).legs, x.eq.length ≤ 1000000 := by
 unfold Qap
 split
 ·exact ⟨hf.car, hr.eq⟩
 ·refine ⟨hf.car, fun x hx => ?_⟩
  obtain ⟨y, hy, rfl⟩ := List.mem_map.1 hx
  unfold QbL
  split
  ·exact hf.eq y hy
  ·split
   ·exact hr.eq1
   ·exact hf.eq y hy
def anyE (r : Rv) (b : Bool) : Int := if b then (if r.kind = 1 then 6 else 0) else if r.kind = 1 then 0 else 7
def QeO (l : List Fl) (r : Rv) : Int := if r.kind < 1 ∨ r.kind > 5 then 8 else if perE r.fr r.to r.days ≠ 0 then perE r.fr r.to r.days else anyE r (l.any (QbJ · r))
theorem Qc4 {l u t : List Fl} {f : Fl} (h : u ++ f :: t = l) : (l.map flE)[u.length]? = some (flE f) := by rw [← h]; simp
theorem Qpz (r : Rv) (bn : Bool) (l : List Fl) (hl : l.length ≤ 100000) (kr : CV) : ∀ (t u : List Fl), u ++ t = l → Evt fun n => ∀ k, t.length < k →
  revision_allowed_L1 lb n k bn (l.map flE) r.kind r.car r.num r.fr r.to r.days r.min r.eq r.ln (r.legs.map lgcv) kr (u.length : Int) = some (.int .i64 (anyE r (t.any (QbJ · r))))
 | [], u, h => by
  refine .all fun n k hk => ?_
  obtain ⟨k, rfl⟩ : ∃ m, k = m + 1 := ⟨k - 1, by simp at hk; omega⟩
  have hp : u = l := by simpa using h
  rw [Qfu, ← hp]
  refine stF (decF (by simp)) ?_
  rw [Qke]
  unfold anyE
  by_cases h1 : r.kind = 1
  ·refine stT (beqT h1) (stF (bneF h1) ?_); simp [h1]
  ·refine stF (beqF h1) (stT (bneT h1) ?_); simp [h1]
 | f :: t, u, h => by
  have hlen : l.length = u.length + (t.length + 1) := by rw [← h]; simp
  have hw1 : IntKind.wrap .i64 ((u.length : Int) + 1) = ((u ++ [f]).length : Int) := by rw [Qaz (by omega) (by omega)]; simp
  refine Evt.imp2 (QdC lb f r) (Qpz r bn l hl kr t (u ++ [f]) (by rw [← h]; simp)) fun n hw hi k hk => ?_
  obtain ⟨k, rfl⟩ : ∃ m, k = m + 1 := ⟨k - 1, by simp at hk; omega⟩
  have hi := hi k (by simp at hk; omega)
  rw [Qfu]
  refine stT (decT (by simp; omega)) (stO _ (QaN (Qc4 h)) (stC rfl (stO _ rfl (stO _ rfl (stO _ rfl (stO _ rfl (stO _ rfl (stO _ rfl (stO _ hw (stO _ (QaK _) ?_))))))))))
  cases ht : QbJ f r with
  | false =>
   refine stF rfl ?_
   rw [hw1, hi]
   simp [ht]
  | true =>
   refine stT rfl ?_
   unfold anyE
   simp only [List.any_cons, ht, Bool.true_or, if_true]
   by_cases h1 : r.kind = 1
   ·rw [if_pos h1]
    exact stT (beqT h1) (stT (decT (by omega)) rfl)
   ·rw [if_neg h1]
    exact stF (beqF h1) (stT (bneT h1) (stF (by rw [decT (by omega)]; rfl) rfl))
theorem QgU (r : Rv) (bn : Bool) (l : List Fl) (hl : l.length ≤ 100000) : Ret lb QaT [.list bn (l.map flE), rvcv r] (.int .i64 (QeO l r)) := by
 refine .top rfl (Evt.imp2 (QbW lb r.fr r.to r.days) (Evt.diag (Qpz lb r bn l hl (.int .i64 (perE r.fr r.to r.days)) l [] rfl)) fun n h1 h2 => ?_)
 rw [Qmk]
 unfold QeO
 by_cases a1 : r.kind < 1
 ·rw [if_pos (.inl a1)]; exact stT (decT a1) rfl
 ·by_cases a2 : r.kind > 5
  ·rw [if_pos (.inr a2)]; exact stF (decF a1) (stT (decT a2) rfl)
  ·rw [if_neg (by omega)]
   refine stF (decF a1) (stF (decF a2) (stO _ h1 (stO _ (QaD ..) ?_)))
   by_cases a3 : perE r.fr r.to r.days = 0
   ·rw [if_neg (by simpa using a3)]
    exact stF (bneF a3) h2
   ·rw [if_pos a3]
    exact stT (bneT a3) rfl
def finP (p : Pc) (r : Rv) (acc : List Fl) : List Fl × Int :=
 if r.kind = 1 then (match QaY p (Qdz r) with
  | e :: _ => ([], e.1)
  | [] => (acc ++ [Qdz r], 0)) else (acc, 0)
def Qd4 (p : Pc) (r : Rv) : List Fl → List Fl → List Fl × Int
 | acc, [] => finP p r acc
 | acc, f :: t =>
  if r.kind = 1 then Qd4 p r (acc ++ [f]) t else
  if QbJ f r = false then Qd4 p r (acc ++ [f]) t else
  if (Qci p f r (qOf f r)).2 = 0 then Qd4 p r (acc ++ (Qci p f r (qOf f r)).1) t else ([], (Qci p f r (qOf f r)).2)
def Qqd (p : Pc) (l : List Fl) (r : Rv) : List Fl × Int := if QeO l r = 0 then Qd4 p r [] l else ([], QeO l r)
theorem QvK (p : Pc) (f : Fl) (r : Rv) (q : P3) : (Qci p f r q).1.length ≤ 4 := by
 have h : (QaW f r).length ≤ 3 := by unfold QaW; rw [List.length_map]; exact QgC f r
 unfold Qci
 split
 ·show (QaW f r).length ≤ 4; omega
 ·split
  ·simp
  ·show (insF (Qap r f q) (QaW f r)).length ≤ 4; rw [QkN]; omega
theorem QqZ (a b : List Fl) : (a.isEmpty && (b.map flE).isEmpty) = (a ++ b).isEmpty := by cases a <;> cases b <;> rfl
theorem Qua (p : Pc) (hp : QbT p) (r : Rv) (hr : OkR r) (hk : 1 ≤ r.kind ∧ r.kind ≤ 5) (bn : Bool) (l : List Fl) (hl : ∀ f ∈ l, OkF f) (hll : l.length ≤ 100000) (vT : CV) : ∀ (t u acc : List Fl), u ++ t = l → acc.length ≤ 4 * u.length → Evt fun n => ∀ k, t.length < k →
  QcY lb n k p.an (p.aps.map apcv) p.dn (p.dis.map dicv) bn (l.map flE) r.kind r.car r.num r.fr r.to r.days r.min r.eq r.ln (r.legs.map lgcv) vT acc.isEmpty (acc.map flE) (u.length : Int) = some (Qd7 (Qd4 p r acc t))
 | [], u, acc, h, ha => by
  have hu : u = l := by simpa using h
  refine (Qjr lb p hp (Qdz r) (by have := hr.car; show r.car.length ≤ _; omega) (fun x hx => by have := hr.eq x hx; omega)).mono fun n hc k hk => ?_
  obtain ⟨k, rfl⟩ : ∃ m, k = m + 1 := ⟨k - 1, by simp at hk; omega⟩
  rw [Qcx, ← hu]
  refine stF (decF (by simp)) ?_
  rw [QlS]
  show _ = some (Qd7 (finP p r acc))
  unfold finP
  by_cases h1 : r.kind = 1
  ·rw [if_pos h1]
   refine stT (beqT h1) (stO _ hc (stO _ rfl ?_))
   cases hch : QaY p (Qdz r) with
   | nil =>
    refine stF (decF (by simp)) (stC (Qa8 (by simp; rw [hu] at ha; omega) (by omega)) ?_)
    rw [Qbr acc (Qdz r)]
    unfold Qd7
    rw [List.map_append]; rfl
   | cons e t => exact stT (decT (by simp)) (stO _ rfl (stO _ rfl (stC rfl (stO _ rfl rfl))))
  ·rw [if_neg h1]
   exact stF (beqF h1) rfl
 | f :: t, u, acc, h, ha => by
  have hlen : l.length = u.length + (t.length + 1) := by rw [← h]; simp
  have hw1 : IntKind.wrap .i64 ((u.length : Int) + 1) = ((u ++ [f]).length : Int) := by rw [Qaz (by omega) (by omega)]; simp
  have hf := hl f (by rw [← h]; simp)
  have hun : Qd4 p r acc (f :: t) = if r.kind = 1 then Qd4 p r (acc ++ [f]) t else
   if QbJ f r = false then Qd4 p r (acc ++ [f]) t else
   if (Qci p f r (qOf f r)).2 = 0 then Qd4 p r (acc ++ (Qci p f r (qOf f r)).1) t else ([], (Qci p f r (qOf f r)).2) := rfl
  have ih1 := Qua p hp r hr hk bn l hl hll vT t (u ++ [f]) (acc ++ [f]) (by rw [← h]; simp) (by simp; omega)
  by_cases h1 : r.kind = 1
  ·rw [hun, if_pos h1]
   refine ih1.mono fun n hi k hk => ?_
   obtain ⟨k, rfl⟩ : ∃ m, k = m + 1 := ⟨k - 1, by simp at hk; omega⟩
   have hi := hi k (by simp at hk; omega)
   rw [List.map_append, ← Qbr acc f acc.isEmpty] at hi
   rw [Qcx, hw1]
   exact stT (decT (by simp; omega)) (stO _ (QaN (Qc4 h)) (stC rfl (stO _ rfl (stO _ rfl (stO _ rfl (stO _ rfl (stO _ rfl (stO _ rfl (stT (beqT h1) (stC (Qa8 (by simp; omega) (by omega)) hi))))))))))
  ·rw [hun, if_neg h1]
   cases ht : QbJ f r with
   | false =>
    rw [if_pos rfl]
    refine Evt.imp2 (QdC lb f r) ih1 fun n hw hi k hk => ?_
    rw [ht] at hw
    obtain ⟨k, rfl⟩ : ∃ m, k = m + 1 := ⟨k - 1, by simp at hk; omega⟩
    have hi := hi k (by simp at hk; omega)
    rw [List.map_append, ← Qbr acc f acc.isEmpty] at hi
    rw [Qcx, hw1]
    exact stT (decT (by simp; omega)) (stO _ (QaN (Qc4 h)) (stC rfl (stO _ rfl (stO _ rfl (stO _ rfl (stO _ rfl (stO _ rfl (stO _ rfl (stF (beqF h1) (stO _ hw (stO _ (QaK _) (stT rfl (stC (Qa8 (by simp; omega) (by omega)) hi)))))))))))))
   | true =>
    rw [if_neg (by simp)]
    obtain ⟨c1, c2⟩ := QqV hf hr (qOf f r)
    have sp := Qmp lb p hp f r (qOf f r) (by have := hf.len; omega) (by omega) hf.ln hf.ne (Qtd ht) (by omega) (fun x hx => by have := c2 x hx; omega)
    have sl := QvK p f r (qOf f r)
    by_cases he : (Qci p f r (qOf f r)).2 = 0
    ·rw [if_pos he]
     have ih2 := Qua p hp r hr hk bn l hl hll vT t (u ++ [f]) (acc ++ (Qci p f r (qOf f r)).1) (by rw [← h]; simp) (by simp; omega)
     refine Evt.imp2 ((QdC lb f r).and sp) ih2 fun n ⟨hw, hs⟩ hi k hk => ?_
     rw [ht] at hw
     obtain ⟨k, rfl⟩ : ∃ m, k = m + 1 := ⟨k - 1, by simp at hk; omega⟩
     have hi := hi k (by simp at hk; omega)
     rw [List.map_append, ← QqZ] at hi
     rw [Qcx, hw1]
     exact stT (decT (by simp; omega)) (stO _ (QaN (Qc4 h)) (stC rfl (stO _ rfl (stO _ rfl (stO _ rfl (stO _ rfl (stO _ rfl (stO _ rfl (stF (beqF h1) (stO _ hw (stO _ (QaK _) (stF rfl (stO _ hs (stO _ rfl (stO _ rfl (stO _ rfl (stO _ rfl (stO _ (QaD ..) (stF (bneF he) (stO _ rfl (stC (by simp [flE]) (stC (Qa8 (by simp; omega) (by omega)) hi))))))))))))))))))))))
    ·rw [if_neg he]
     refine Evt.imp2 (QdC lb f r) sp fun n hw hs k hk => ?_
     rw [ht] at hw
     obtain ⟨k, rfl⟩ : ∃ m, k = m + 1 := ⟨k - 1, by simp at hk; omega⟩
     rw [Qcx, hw1]
     exact stT (decT (by simp; omega)) (stO _ (QaN (Qc4 h)) (stC rfl (stO _ rfl (stO _ rfl (stO _ rfl (stO _ rfl (stO _ rfl (stO _ rfl (stF (beqF h1) (stO _ hw (stO _ (QaK _) (stF rfl (stO _ hs (stO _ rfl (stO _ rfl (stO _ rfl (stO _ rfl (stO _ (QaD ..) (stT (bneT he) rfl)))))))))))))))))))
theorem Qt8 {l : List Fl} {r : Rv} (h : QeO l r = 0) : 1 ≤ r.kind ∧ r.kind ≤ 5 := by
 unfold QeO at h
 split at h
 ·cases h
 ·omega
theorem Qmq (p : Pc) (hp : QbT p) (r : Rv) (hr : OkR r) (bn : Bool) (l : List Fl) (hl : ∀ f ∈ l, OkF f) (hll : l.length ≤ 100000) : Ret lb Qbl [pcv p, .list bn (l.map flE), rvcv r] (Qd7 (Qqd p l r)) := by
 unfold Qqd
 by_cases ha : QeO l r = 0
 ·rw [if_pos ha]
  refine .top rfl (Evt.imp2 (QgU lb r bn l hll) (Evt.diag (Qua lb p hp r hr (Qt8 ha) bn l hl hll (.int .i64 (QeO l r)) l [] [] rfl (by simp))) fun n h1 h2 => ?_)
  rw [QiF]
  exact stO _ h1 (stO _ (QaD ..) (stF (bneF ha) h2))
 ·rw [if_neg ha]
  refine .top rfl ((QgU lb r bn l hll).mono fun n h1 => ?_)
  rw [QiF]
  exact stO _ h1 (stO _ (QaD ..) (stT (bneT ha) rfl))
end Go.Proofs
set_option linter.unusedSimpArgs false
set_option linter.unusedVariables false
namespace Go.Proofs
open Go.Am
variable (lb : Nat)
def outR (r : Rv) : List Fl → List Fl
 | [] => []
 | f :: t => (if QbJ f r then (QbP f r (qOf f r)).1 else [f]) ++ outR r t
def newR (r : Rv) : List Fl → List Fl
 | [] => []
 | f :: t => (if QbJ f r && decide (r.kind ≠ 2) then [Qap r f (qOf f r)] else []) ++ newR r t
def Qdj (r : Rv) : List Fl → Nat
 | [] => 0
 | f :: t => (if QbJ f r then 1 else 0) + Qdj r t
def Qc8 (p : Pc) : List Fl → Option Int
 | [] => none
 | g :: t => match QaY p g with
  | e :: _ => some e.1
  | [] => Qc8 p t
def chkR (p : Pc) (out new : List Fl) : List Fl × Int := match Qc8 p new with
 | some e => ([], e)
 | none => (out, 0)
def QnX (g : Fl) : Prop := g.car.length ≤ 1000000 ∧ ∀ x ∈ g.legs, x.eq.length ≤ 1000000
theorem Qth (p : Pc) (hp : QbT p) (r : Rv) (bn b : Bool) (L ol : List (List CV)) (i1 i2 : Int) (nb : Bool) (new : List Fl) (hg : ∀ g ∈ new, QnX g) (hlen : new.length ≤ 1000000) : ∀ (t u : List Fl), u ++ t = new → Evt fun n => ∀ k, t.length < k →
  QgP lb n k p.an (p.aps.map apcv) p.dn (p.dis.map dicv) bn L r.kind r.car r.num r.fr r.to r.days r.min r.eq r.ln (r.legs.map lgcv) b ol nb (new.map flE) i1 i2 (u.length : Int) = some (match Qc8 p t with | some e => .tup [.list true [], .int .i64 e] | none => .tup [.list b ol, .int .i64 0])
 | [], u, h => by
  refine .all fun n k hk => ?_
  obtain ⟨k, rfl⟩ : ∃ m, k = m + 1 := ⟨k - 1, by simp at hk; omega⟩
  have hu : u = new := by simpa using h
  rw [Qip, ← hu]
  refine stF (decF (by simp)) ?_
  rw [Qqq]
  rfl
 | f :: t, u, h => by
  have hl : new.length = u.length + (t.length + 1) := by rw [← h]; simp
  have hw1 : IntKind.wrap .i64 ((u.length : Int) + 1) = ((u ++ [f]).length : Int) := by rw [Qaz (by omega) (by omega)]; simp
  obtain ⟨g1, g2⟩ := hg f (by rw [← h]; simp)
  refine Evt.imp2 (Qih lb p hp f (by omega) (fun x hx => by have := g2 x hx; omega)) (Qth p hp r bn b L ol i1 i2 nb new hg hlen t (u ++ [f]) (by rw [← h]; simp)) fun n hc hi k hk => ?_
  obtain ⟨k, rfl⟩ : ∃ m, k = m + 1 := ⟨k - 1, by simp at hk; omega⟩
  have hi := hi k (by simp at hk; omega)
  rw [Qip, hw1]
  refine stT (decT (by simp; omega)) (stO _ (QaN (Qc4 h)) (stC rfl (stO _ rfl (stO _ rfl (stO _ rfl (stO _ rfl (stO _ rfl (stO _ rfl (stO _ hc (stO _ rfl ?_))))))))))
  unfold Qc8
  cases hch : QaY p f with
  | nil => exact stF (decF (by simp)) hi
  | cons e s => exact stT (decT (by simp)) (stO _ rfl (stO _ rfl (stC rfl (stO _ rfl rfl))))
theorem QtN (p : Pc) (hp : QbT p) (r : Rv) (bn b : Bool) (L ol : List (List CV)) (i1 i2 : Int) (nb : Bool) (s : Bs) (j1 j2 j3 j4 : Int) (b2 : Bool) (l2 : List (List CV)) (new : List Fl) (hg : ∀ g ∈ new, QnX g) (hlen : new.length ≤ 1000000) : ∀ (t u : List Fl), u ++ t = new → Evt fun n => ∀ k, t.length < k →
  QgI lb n k p.an (p.aps.map apcv) p.dn (p.dis.map dicv) bn L r.kind r.car r.num r.fr r.to r.days r.min r.eq r.ln (r.legs.map lgcv) b ol nb (new.map flE) i1 i2 s j1 j2 j3 j4 b2 l2 (u.length : Int) = some (match Qc8 p t with | some e => .tup [.list true [], .int .i64 e] | none => .tup [.list b ol, .int .i64 0])
 | [], u, h => by
  refine .all fun n k hk => ?_
  obtain ⟨k, rfl⟩ : ∃ m, k = m + 1 := ⟨k - 1, by simp at hk; omega⟩
  have hu : u = new := by simpa using h
  rw [Qiz, ← hu]
  refine stF (decF (by simp)) ?_
  rw [Qqo]
  rfl
 | f :: t, u, h => by
  have hl : new.length = u.length + (t.length + 1) := by rw [← h]; simp
  have hw1 : IntKind.wrap .i64 ((u.length : Int) + 1) = ((u ++ [f]).length : Int) := by rw [Qaz (by omega) (by omega)]; simp
  obtain ⟨g1, g2⟩ := hg f (by rw [← h]; simp)
  refine Evt.imp2 (Qih lb p hp f (by omega) (fun x hx => by have := g2 x hx; omega)) (QtN p hp r bn b L ol i1 i2 nb s j1 j2 j3 j4 b2 l2 new hg hlen t (u ++ [f]) (by rw [← h]; simp)) fun n hc hi k hk => ?_
  obtain ⟨k, rfl⟩ : ∃ m, k = m + 1 := ⟨k - 1, by simp at hk; omega⟩
  have hi := hi k (by simp at hk; omega)
  rw [Qiz, hw1]
  refine stT (decT (by simp; omega)) (stO _ (QaN (Qc4 h)) (stC rfl (stO _ rfl (stO _ rfl (stO _ rfl (stO _ rfl (stO _ rfl (stO _ rfl (stO _ hc (stO _ rfl ?_))))))))))
  unfold Qc8
  cases hch : QaY p f with
  | nil => exact stF (decF (by simp)) hi
  | cons e s => exact stT (decT (by simp)) (stO _ rfl (stO _ rfl (stC rfl (stO _ rfl rfl))))
theorem QpE (f : Fl) (r : Rv) (q : P3) : (QbP f r q).1.length ≤ 4 := by
 have h : (QaW f r).length ≤ 3 := by unfold QaW; rw [List.length_map]; exact QgC f r
 unfold QbP
 split
 ·show (QaW f r).length ≤ 4; omega
 ·show (insF (Qap r f q) (QaW f r)).length ≤ 4; rw [QkN]; omega
theorem QnM (p : Pc) (r : Rv) (hr : OkR r) (bn : Bool) (l : List Fl) (hl : ∀ f ∈ l, OkF f) (hll : l.length ≤ 100000) : ∀ (t u out new : List Fl) (many : Nat), u ++ t = l → out.length ≤ 4 * u.length → new.length ≤ u.length → many ≤ u.length → Evt fun n => ∀ k, t.length < k →
  Qey lb n k p.an (p.aps.map apcv) p.dn (p.dis.map dicv) bn (l.map flE) r.kind r.car r.num r.fr r.to r.days r.min r.eq r.ln (r.legs.map lgcv) out.isEmpty (out.map flE) new.isEmpty (new.map flE) (many : Int) (u.length : Int) =
   QgQ lb n p.an (p.aps.map apcv) p.dn (p.dis.map dicv) bn (l.map flE) r.kind r.car r.num r.fr r.to r.days r.min r.eq r.ln (r.legs.map lgcv) (out ++ outR r t).isEmpty ((out ++ outR r t).map flE) (new ++ newR r t).isEmpty ((new ++ newR r t).map flE) ((many + Qdj r t : Nat) : Int) (l.length : Int)
 | [], u, out, new, many, h, h1, h2, h3 => by
  refine .all fun n k hk => ?_
  obtain ⟨k, rfl⟩ : ∃ m, k = m + 1 := ⟨k - 1, by simp at hk; omega⟩
  have hu : u = l := by simpa using h
  subst hu
  rw [Qen]
  refine stF (decF (by simp)) ?_
  simp only [outR, newR, Qdj, List.append_nil, Nat.add_zero]
 | f :: t, u, out, new, many, h, h1, h2, h3 => by
  have hlen : l.length = u.length + (t.length + 1) := by rw [← h]; simp
  have hw1 : IntKind.wrap .i64 ((u.length : Int) + 1) = ((u ++ [f]).length : Int) := by rw [Qaz (by omega) (by omega)]; simp
  have hw2 : IntKind.wrap .i64 ((many : Int) + 1) = ((many + 1 : Nat) : Int) := by rw [Qaz (by omega) (by omega)]; simp
  have hf := hl f (by rw [← h]; simp)
  cases ht : QbJ f r with
  | false =>
   refine Evt.imp2 (Qg3 lb f r) (QnM p r hr bn l hl hll t (u ++ [f]) (out ++ [f]) new many (by rw [← h]; simp) (by simp; omega) (by simp; omega) (by simp; omega)) fun n hw hi k hk => ?_
   rw [ht] at hw
   obtain ⟨k, rfl⟩ : ∃ m, k = m + 1 := ⟨k - 1, by simp at hk; omega⟩
   have hi := hi k (by simp at hk; omega)
   have e1 : outR r (f :: t) = [f] ++ outR r t := by simp [outR, ht]
   have e2 : newR r (f :: t) = newR r t := by simp [newR, ht]
   have e3 : Qdj r (f :: t) = Qdj r t := by simp [Qdj, ht]
   rw [e1, e2, e3, ← List.append_assoc]
   rw [List.map_append (l₁ := out) (l₂ := [f]), ← Qbr out f out.isEmpty] at hi
   rw [Qen, hw1]
   exact stT (decT (by simp; omega)) (stO _ (QaN (Qc4 h)) (stC rfl (stO _ rfl (stO _ rfl (stO _ rfl (stO _ rfl (stO _ rfl (stO _ rfl (stO _ hw (stO _ (QaK _) (stT rfl (stO _ (QaN (Qc4 h)) (stC rfl (stO _ rfl (stO _ rfl (stO _ rfl (stO _ rfl (stO _ rfl (stO _ rfl (stC (Qa8 (by simp; omega) (by omega)) hi))))))))))))))))))))
  | true =>
   have sp := QsT lb f r (qOf f r) (by have := hf.len; omega) (Qtd ht)
   have sl := QpE f r (qOf f r)
   have e1 : outR r (f :: t) = (QbP f r (qOf f r)).1 ++ outR r t := by simp [outR, ht]
   have e3 : many + Qdj r (f :: t) = (many + 1) + Qdj r t := by simp [Qdj, ht]; omega
   rw [e1, e3, ← List.append_assoc]
   by_cases hk2 : r.kind = 2
   ·have e2 : newR r (f :: t) = newR r t := by simp [newR, hk2]
    rw [e2]
    have s2 : (QbP f r (qOf f r)).2 = -1 := by unfold QbP; rw [if_pos hk2]
    refine Evt.imp2 ((Qg3 lb f r).and sp) (QnM p r hr bn l hl hll t (u ++ [f]) (out ++ (QbP f r (qOf f r)).1) new (many + 1) (by rw [← h]; simp) (by simp; omega) (by simp; omega) (by simp; omega)) fun n ⟨hw, hs⟩ hi k hk => ?_
    rw [ht] at hw
    obtain ⟨k, rfl⟩ : ∃ m, k = m + 1 := ⟨k - 1, by simp at hk; omega⟩
    have hi := hi k (by simp at hk; omega)
    rw [List.map_append (l₁ := out) (l₂ := (QbP f r (qOf f r)).1), ← QqZ] at hi
    rw [s2] at hs
    rw [Qen, hw1, hw2]
    exact stT (decT (by simp; omega)) (stO _ (QaN (Qc4 h)) (stC rfl (stO _ rfl (stO _ rfl (stO _ rfl (stO _ rfl (stO _ rfl (stO _ rfl (stO _ hw (stO _ (QaK _) (stF rfl (stO _ (QaN (Qc4 h)) (stC rfl (stO _ rfl (stO _ rfl (stO _ rfl (stO _ rfl (stO _ rfl (stO _ rfl (stO _ hs (stO _ rfl (stO _ rfl (stO _ rfl (stO _ rfl (stO _ rfl (stC (by simp [flE]) (stC (Qa8 (by simp; omega) (by omega)) (stO _ (QaD ..) (stF rfl hi)))))))))))))))))))))))))))))
   ·have e2 : newR r (f :: t) = [Qap r f (qOf f r)] ++ newR r t := by simp [newR, hk2, ht]
    rw [e2, ← List.append_assoc]
    have s2 : QbP f r (qOf f r) = (insF (Qap r f (qOf f r)) (QaW f r), ((idxF (Qap r f (qOf f r)) (QaW f r) : Nat) : Int)) := by unfold QbP; rw [if_neg hk2]
    have hat : (((QbP f r (qOf f r)).1).map flE)[idxF (Qap r f (qOf f r)) (QaW f r)]? = some (flE (Qap r f (qOf f r))) := by
     rw [s2, List.getElem?_map, Qvw]; rfl
    have s3 : (QbP f r (qOf f r)).2 = ((idxF (Qap r f (qOf f r)) (QaW f r) : Nat) : Int) := by rw [s2]
    refine Evt.imp2 ((Qg3 lb f r).and sp) (QnM p r hr bn l hl hll t (u ++ [f]) (out ++ (QbP f r (qOf f r)).1) (new ++ [Qap r f (qOf f r)]) (many + 1) (by rw [← h]; simp) (by simp; omega) (by simp; omega) (by simp; omega)) fun n ⟨hw, hs⟩ hi k hk => ?_
    rw [ht] at hw
    obtain ⟨k, rfl⟩ : ∃ m, k = m + 1 := ⟨k - 1, by simp at hk; omega⟩
    have hi := hi k (by simp at hk; omega)
    rw [List.map_append (l₁ := out) (l₂ := (QbP f r (qOf f r)).1), ← QqZ, List.map_append (l₁ := new) (l₂ := [Qap r f (qOf f r)]), ← Qbr new (Qap r f (qOf f r)) new.isEmpty] at hi
    rw [s3] at hs
    rw [Qen, hw1, hw2]
    exact stT (decT (by simp; omega)) (stO _ (QaN (Qc4 h)) (stC rfl (stO _ rfl (stO _ rfl (stO _ rfl (stO _ rfl (stO _ rfl (stO _ rfl (stO _ hw (stO _ (QaK _) (stF rfl (stO _ (QaN (Qc4 h)) (stC rfl (stO _ rfl (stO _ rfl (stO _ rfl (stO _ rfl (stO _ rfl (stO _ rfl (stO _ hs (stO _ rfl (stO _ rfl (stO _ rfl (stO _ rfl (stO _ rfl (stC (by simp [flE]) (stC (Qa8 (by simp; omega) (by omega)) (stO _ (QaD ..) (stT (decT (by omega)) (stO _ rfl (stO _ rfl (stO _ (QaN hat) (stC rfl (stO _ rfl (stO _ rfl (stO _ rfl (stO _ rfl (stO _ rfl (stO _ rfl (stC (Qa8 (by simp; omega) (by omega)) hi))))))))))))))))))))))))))))))))))))))))
def resF (p : Pc) (l : List Fl) (r : Rv) : List Fl × Int :=
 if r.kind < 1 ∨ r.kind > 5 then ([], 8) else if perE r.fr r.to r.days ≠ 0 then ([], perE r.fr r.to r.days) else
 if r.kind = 1 then (if Qdj r l = 0 then chkR p (outR r l ++ [Qdz r]) (newR r l ++ [Qdz r]) else ([], 6)) else
 if Qdj r l = 0 then ([], 7) else chkR p (outR r l) (newR r l)
theorem Qsm {r : Rv} (hr : OkR r) : ∀ {l : List Fl}, (∀ f ∈ l, OkF f) → ∀ g ∈ newR r l, QnX g
 | [], _, g, hg => by simp [newR] at hg
 | f :: t, hl, g, hg => by
  unfold newR at hg
  rcases List.mem_append.1 hg with hg | hg
  ·split at hg
   ·simp at hg; subst hg; exact QqV (hl f (by simp)) hr _
   ·simp at hg
  ·exact Qsm hr (fun x hx => hl x (by simp [hx])) g hg
theorem Qpb (r : Rv) : ∀ l : List Fl, (outR r l).length ≤ 4 * l.length
 | [] => by simp [outR]
 | f :: t => by
  have := Qpb r t
  have := QpE f r (qOf f r)
  unfold outR
  split <;> simp <;> omega
theorem Qt2 (r : Rv) : ∀ l : List Fl, (newR r l).length ≤ l.length
 | [] => by simp [newR]
 | f :: t => by
  have := Qt2 r t
  unfold newR
  split <;> simp <;> omega
theorem QAf (p : Pc) (out new : List Fl) : (match Qc8 p new with | some e => CV.tup [.list true [], .int .i64 e] | none => .tup [.list out.isEmpty (out.map flE), .int .i64 0]) = Qd7 (chkR p out new) := by
 unfold chkR
 cases Qc8 p new <;> rfl
theorem QyQ (p : Pc) (hp : QbT p) (r : Rv) (hr : OkR r) (bn : Bool) (L : List (List CV)) (out new : List Fl) (ho : out.length ≤ 900000) (hn : new.length ≤ 900000) (hg : ∀ g ∈ new, QnX g) (many : Nat) (i : Int) : Evt fun n =>
  QgQ lb n p.an (p.aps.map apcv) p.dn (p.dis.map dicv) bn L r.kind r.car r.num r.fr r.to r.days r.min r.eq r.ln (r.legs.map lgcv) out.isEmpty (out.map flE) new.isEmpty (new.map flE) (many : Int) i =
   some (Qd7 (if r.kind = 1 then (if many = 0 then chkR p (out ++ [Qdz r]) (new ++ [Qdz r]) else ([], 6)) else if many = 0 then ([], 7) else chkR p out new)) := by
 have q7 := Evt.diag (Qth lb p hp r bn out.isEmpty L (out.map flE) (many : Int) i new.isEmpty new hg (by omega) new [] rfl)
 have q4 := Evt.diag (QtN lb p hp r bn (out ++ [Qdz r]).isEmpty L ((out ++ [Qdz r]).map flE) (many : Int) i (new ++ [Qdz r]).isEmpty r.car r.num r.fr r.to r.days r.ln (r.legs.map lgcv) (new ++ [Qdz r]) (fun g hg' => by
  rcases List.mem_append.1 hg' with h | h
  ·exact hg g h
  ·simp at h; subst h; exact ⟨hr.car, hr.eq⟩) (by simp; omega) (new ++ [Qdz r]) [] rfl)
 refine Evt.imp2 q7 q4 fun n a7 a4 => ?_
 rw [QAf] at a7 a4
 rw [Qpx]
 by_cases h1 : r.kind = 1
 ·rw [if_pos h1]
  by_cases hm : many = 0
  ·rw [if_pos hm]
   refine stT (beqT h1) (stF (decF (by omega)) (stF (bneF h1) (stT (beqT h1) (stC (Qa8 (by simp; omega) (by omega)) (stC (Qa8 (by simp; omega) (by omega)) ?_)))))
   rw [Qqb]
   rw [List.map_append (l₁ := out), List.map_append (l₁ := new), ← Qbr out (Qdz r) out.isEmpty, ← Qbr new (Qdz r) new.isEmpty] at a4
   exact a4
  ·rw [if_neg hm]
   exact stT (beqT h1) (stT (decT (by omega)) rfl)
 ·rw [if_neg h1]
  by_cases hm : many = 0
  ·rw [if_pos hm]
   exact stF (beqF h1) (stT (bneT h1) (stT (beqT (by omega)) rfl))
  ·rw [if_neg hm]
   refine stF (beqF h1) (stT (bneT h1) (stF (beqF (by omega)) (stF (beqF h1) ?_)))
   rw [QqU]
   exact a7
theorem QsU (p : Pc) (hp : QbT p) (r : Rv) (hr : OkR r) (bn : Bool) (l : List Fl) (hl : ∀ f ∈ l, OkF f) (hll : l.length ≤ 100000) : Ret lb QaC [pcv p, .list bn (l.map flE), rvcv r] (Qd7 (resF p l r)) := by
 have ho := Qpb r l
 have hn := Qt2 r l
 have a := Evt.diag (QnM lb p r hr bn l hl hll l [] [] [] 0 rfl (by simp) (by simp) (by simp))
 have b := QyQ lb p hp r hr bn (l.map flE) (outR r l) (newR r l) (by omega) (by omega) (Qsm hr hl) (0 + Qdj r l) (l.length : Int)
 refine .top rfl (Evt.imp2 (Qdv lb r.fr r.to r.days) (a.and b) fun n h1 ⟨h2, h3⟩ => ?_)
 rw [QuH]
 unfold resF
 by_cases a1 : r.kind < 1
 ·rw [if_pos (.inl a1)]; exact stT (decT a1) rfl
 ·by_cases a2 : r.kind > 5
  ·rw [if_pos (.inr a2)]; exact stF (decF a1) (stT (decT a2) rfl)
  ·rw [if_neg (by omega)]
   refine stF (decF a1) (stF (decF a2) (stO _ h1 (stO _ (QaD ..) ?_)))
   by_cases a3 : perE r.fr r.to r.days = 0
   ·rw [if_neg (by simpa using a3)]
    rw [Nat.zero_add] at h3
    have h2' := h2
    rw [Nat.zero_add] at h2'
    exact stF (bneF a3) (h2'.trans h3)
   ·rw [if_pos a3]
    exact stT (bneT a3) (stO _ h1 rfl)
end Go.Proofs
set_option linter.unusedSimpArgs false
set_option linter.unusedVariables false
namespace Go.Proofs
open Go.Am
theorem Qtg {f : Fl} {e : Ft} (h : e ∈ QdR f) : e.1 ≠ 0 := by
 unfold QdR at h
 simp only [List.mem_append] at h
 rcases h with (h | h) | h
 ·split at h
  ·simp at h
  ·simp at h; rw [h]; decide
 ·split at h
  ·simp at h
  ·simp at h; rw [h]; decide
 ·split at h
  ·rename_i hh; simp at h hh; rw [h]; exact hh
  ·simp at h
theorem Qzj {p : Pc} {q : List Lg} {x : Lg} {e : Int} (h : e ∈ legE p q x) : e ≠ 0 := by
 unfold legE at h
 simp only [List.mem_append] at h
 rcases h with ((h | h) | h) | h <;> (split at h <;> simp at h <;> subst h <;> decide)
theorem Qsj {p : Pc} {e : Ft} : ∀ (t q : List Lg), e ∈ Qa2 p q t → e.1 ≠ 0
 | [], q, h => by simp [Qa2] at h
 | x :: t, q, h => by
  unfold Qa2 at h
  rcases List.mem_append.1 h with h | h
  ·obtain ⟨z, hz, rfl⟩ := List.mem_map.1 h
   exact Qzj hz
  ·exact Qsj t _ h
theorem Que {p : Pc} {l : List Lg} {e : Ft} : ∀ (r : List Int), e ∈ QcF p l r → e.1 ≠ 0
 | [], h => by simp [QcF] at h
 | d :: r, h => by
  unfold QcF at h
  split at h
  ·exact Que r h
  ·simp at h; subst h; simp
theorem QwM {p : Pc} {f : Fl} {e : Ft} (h : e ∈ QaY p f) : e.1 ≠ 0 := by
 unfold QaY at h
 split at h
 ·unfold QfN at h
  rcases List.mem_append.1 h with h | h
  ·exact Qtg h
  ·split at h
   ·simp at h; subst h; simp
   ·simp at h
 ·split at h
  ·exact Que _ h
  ·rcases List.mem_append.1 h with h | h
   ·exact Qtg h
   ·exact Qsj _ _ h
theorem Qtx (r : Rv) : ∀ l : List Fl, (l.any (QbJ · r) = false) ↔ Qdj r l = 0
 | [] => by simp [Qdj]
 | f :: t => by
  have := Qtx r t
  cases h : QbJ f r <;> simp [Qdj, h, this]
theorem Qt5 (r : Rv) : ∀ l : List Fl, Qdj r l = 0 → outR r l = l ∧ newR r l = []
 | [], _ => ⟨rfl, rfl⟩
 | f :: t, h => by
  have ht : QbJ f r = false := by
   cases h1 : QbJ f r with
   | false => rfl
   | true => simp [Qdj, h1] at h
  have h2 : Qdj r t = 0 := by simp [Qdj, ht] at h; exact h
  obtain ⟨a, b⟩ := Qt5 r t h2
  simp [outR, newR, ht, a, b]
theorem QrM (p : Pc) (r : Rv) (h1 : r.kind = 1) : ∀ (t acc : List Fl), Qd4 p r acc t = finP p r (acc ++ t)
 | [], acc => by simp [Qd4]
 | f :: t, acc => by
  have := QrM p r h1 t (acc ++ [f])
  rw [Qd4, if_pos h1, this]; simp
theorem Qj1 (p : Pc) (r : Rv) (h1 : r.kind ≠ 1) : ∀ (t acc : List Fl), Qd4 p r acc t = chkR p (acc ++ outR r t) (newR r t)
 | [], acc => by
  show finP p r acc = _
  unfold finP
  rw [if_neg h1]
  simp [outR, newR, chkR, Qc8]
 | f :: t, acc => by
  rw [Qd4, if_neg h1]
  cases ht : QbJ f r with
  | false =>
   rw [if_pos rfl, Qj1 p r h1 t (acc ++ [f])]
   simp [outR, newR, ht]
  | true =>
   rw [if_neg (by simp)]
   by_cases h2 : r.kind = 2
   ·have e : Qci p f r (qOf f r) = (QaW f r, 0) := by unfold Qci; rw [if_pos h2]
    have e2 : QbP f r (qOf f r) = (QaW f r, -1) := by unfold QbP; rw [if_pos h2]
    rw [e, if_pos rfl, Qj1 p r h1 t]
    simp [outR, newR, ht, e2, h2]
   ·have e2 : (QbP f r (qOf f r)).1 = insF (Qap r f (qOf f r)) (QaW f r) := by unfold QbP; rw [if_neg h2]
    have e3 : newR r (f :: t) = Qap r f (qOf f r) :: newR r t := by simp [newR, ht, h2]
    have e4 : outR r (f :: t) = insF (Qap r f (qOf f r)) (QaW f r) ++ outR r t := by simp [outR, ht, e2]
    rw [e3, e4]
    cases hc : QaY p (Qap r f (qOf f r)) with
    | nil =>
     have e : Qci p f r (qOf f r) = (insF (Qap r f (qOf f r)) (QaW f r), 0) := by unfold Qci; rw [if_neg h2, hc]
     rw [e, if_pos rfl, Qj1 p r h1 t]
     unfold chkR
     rw [Qc8, hc, List.append_assoc]
    | cons x s =>
     have e : Qci p f r (qOf f r) = ([], x.1) := by unfold Qci; rw [if_neg h2, hc]
     have hx : x.1 ≠ 0 := QwM (p := p) (f := Qap r f (qOf f r)) (by rw [hc]; simp)
     rw [e, if_neg hx]
     unfold chkR
     rw [Qc8, hc]
theorem QxH (p : Pc) (l : List Fl) (r : Rv) : Qqd p l r = resF p l r := by
 unfold Qqd resF QeO
 by_cases a1 : r.kind < 1 ∨ r.kind > 5
 ·rw [if_pos a1, if_pos a1]; rfl
 ·rw [if_neg a1, if_neg a1]
  by_cases a3 : perE r.fr r.to r.days ≠ 0
  ·rw [if_pos a3, if_pos a3, if_neg a3]
  ·rw [if_neg a3, if_neg a3]
   have m := Qtx r l
   unfold anyE
   by_cases h1 : r.kind = 1
   ·rw [if_pos h1, if_pos h1, if_pos h1]
    by_cases hm : Qdj r l = 0
    ·rw [m.2 hm, if_pos hm]
     obtain ⟨o1, o2⟩ := Qt5 r l hm
     rw [o1, o2]
     simp only [Bool.false_eq_true, if_false, if_true]
     rw [QrM p r h1, List.nil_append]
     unfold finP chkR
     rw [if_pos h1, List.nil_append, Qc8]
     cases QaY p (Qdz r) <;> simp [Qc8]
    ·have : l.any (QbJ · r) = true := by
      cases h : l.any (QbJ · r) with
      | true => rfl
      | false => exact absurd (m.1 h) hm
     rw [this, if_neg hm]
     simp
   ·rw [if_neg h1, if_neg h1, if_neg h1]
    by_cases hm : Qdj r l = 0
    ·rw [m.2 hm, if_pos hm]
     simp
    ·have : l.any (QbJ · r) = true := by
      cases h : l.any (QbJ · r) with
      | true => rfl
      | false => exact absurd (m.1 h) hm
     rw [this, if_neg hm]
     simp only [if_true]
     rw [Qj1 p r h1, List.nil_append]
end Go.Proofs
set_option linter.unusedSimpArgs false
set_option linter.unusedVariables false
namespace Go.Proofs
open Go.Am
variable (lb : Nat)
def Qy9 : Bs := [102, 108, 105, 103, 104, 116, 32]
def atS (i : Nat) : Bs := Qy9 ++ Lib.itoa (i : Int)
def ownE (i : Nat) (e : Ft) : Ft := (e.1, (atS i ++ [32]) ++ e.2)
def ft8 (p : Pc) (i : Nat) (tw : Bool) (f : Fl) : List Ft := (QaY p f).map (ownE i) ++ if tw then [(6, atS i)] else []
def QiI (p : Pc) : List Fl → List Fl → List Ft
 | _, [] => []
 | q, f :: t => ft8 p q.length (q.any (Qet · f)) f ++ QiI p (q ++ [f]) t
theorem Qsu {f : Fl} {e : Ft} (h : e ∈ QdR f) : e.2.length ≤ 100 := by
 unfold QdR at h
 simp only [List.mem_append] at h
 rcases h with (h | h) | h
 ·split at h
  ·simp at h
  ·simp at h; rw [h]; decide
 ·split at h
  ·simp at h
  ·simp at h; rw [h]; decide
 ·split at h
  ·simp at h; rw [h]; show wPeriod.length ≤ 100; decide
  ·simp at h
theorem QpS {p : Pc} {e : Ft} : ∀ (t q : List Lg), q.length + t.length ≤ 1000 → e ∈ Qa2 p q t → e.2.length ≤ 100
 | [], q, _, h => by simp [Qa2] at h
 | x :: t, q, hq, h => by
  unfold Qa2 at h
  rcases List.mem_append.1 h with h | h
  ·obtain ⟨z, hz, rfl⟩ := List.mem_map.1 h
   have := QeR (z := (q.length : Int)) (by omega) (by simp at hq; omega)
   have : wLeg.length = 4 := rfl
   simp; omega
  ·exact QpS t _ (by simp at hq ⊢; omega) h
theorem Qsq {p : Pc} {l : List Lg} {e : Ft} : ∀ (r : List Int), e ∈ QcF p l r → e.2.length ≤ 100
 | [], h => by simp [QcF] at h
 | d :: r, h => by
  unfold QcF at h
  split at h
  ·exact Qsq r h
  ·simp at h; rw [h]
   have : wDay.length = 4 := rfl
   have := Qm8 d
   simp; omega
theorem Qwm {p : Pc} {f : Fl} {e : Ft} (h : e ∈ QaY p f) : e.2.length ≤ 100 := by
 unfold QaY at h
 split at h
 ·unfold QfN at h
  rcases List.mem_append.1 h with h | h
  ·exact Qsu h
  ·split at h
   ·simp at h; rw [h]; decide
   ·simp at h
 ·split at h
  ·exact Qsq _ h
  ·rcases List.mem_append.1 h with h | h
   ·exact Qsu h
   ·exact QpS _ _ (by simp; omega) h
theorem Qr7 (p : Pc) (l : List Lg) : ∀ (D : List Int), (QcF p l D).length ≤ 1
 | [] => by simp [QcF]
 | d :: D => by
  have := Qr7 p l D
  unfold QcF; split <;> simp [this]
theorem Qlv (p : Pc) (f : Fl) : (QaY p f).length ≤ 50 := by
 unfold QaY
 have hg := Qkc f
 split
 ·unfold QfN; rw [List.length_append]
  have : (if (decide ((f.legs.length : Int) < 1) || decide ((f.legs.length : Int) > 6)) then [(4, QnR)] else [] : List Ft).length ≤ 1 := by split <;> simp
  omega
 ·split
  ·have := Qr7 p f.legs (Qat f.fr f.to f.days); omega
  ·rw [List.length_append]; have := QiS p f.legs []; omega
theorem Qy5 (p : Pc) (i : Nat) (tw : Bool) (f : Fl) : (ft8 p i tw f).length ≤ 51 := by
 have := Qlv p f
 unfold ft8
 cases tw <;> simp <;> omega
theorem Qyy (n k0 : Nat) (p : Pc) (bn : Bool) (L : List (List CV)) (i : Nat) (hi : i ≤ 1000) (f : Fl) (yy : CV) (H : List Ft) (hH : H.length ≤ 900000) : ∀ (t u : List Ft) (k : Nat), u ++ t = QaY p f → t.length < k →
  QgF lb n k k0 p.an (p.aps.map apcv) p.dn (p.dis.map dicv) bn L (i : Int) (Lib.itoa (i : Int)) (Qb6 (QaY p f)) yy (flE f) (.str f.car) (.int .i64 f.num) (.int .i64 f.fr) (.int .i64 f.to) (.int .i64 f.days) (.list f.ln (f.legs.map lgcv)) (H ++ u.map (ownE i)).isEmpty ((H ++ u.map (ownE i)).map Qba) (u.length : Int) =
   Qjp lb n k0 p.an (p.aps.map apcv) p.dn (p.dis.map dicv) bn L (i : Int) (Lib.itoa (i : Int)) (Qb6 (QaY p f)) yy (flE f) (.str f.car) (.int .i64 f.num) (.int .i64 f.fr) (.int .i64 f.to) (.int .i64 f.days) (.list f.ln (f.legs.map lgcv)) (H ++ (QaY p f).map (ownE i)).isEmpty ((H ++ (QaY p f).map (ownE i)).map Qba) ((QaY p f).length : Int)
 | [], u, k, h, hk => by
  obtain ⟨k, rfl⟩ : ∃ m, k = m + 1 := ⟨k - 1, by simp at hk; omega⟩
  have hu : u = QaY p f := by simpa using h
  rw [Qit, hu]
  exact stO _ rfl (stF (decF (by simp)) rfl)
 | e :: t, u, k, h, hk => by
  obtain ⟨k, rfl⟩ : ∃ m, k = m + 1 := ⟨k - 1, by simp at hk; omega⟩
  have hc := Qlv p f
  have hl : (QaY p f).length = u.length + (t.length + 1) := by rw [← h]; simp
  have hs := Qwm (p := p) (f := f) (e := e) (by rw [← h]; simp)
  have hit := QeR (z := (i : Int)) (by omega) (by omega)
  have hw1 : IntKind.wrap .i64 ((u.length : Int) + 1) = ((u ++ [e]).length : Int) := by rw [Qaz (by omega) (by omega)]; simp
  have hg : ((QaY p f).map Qba)[u.length]? = some (Qba e) := by rw [← h]; simp
  have ih := Qyy n k0 p bn L i hi f yy H hH t (u ++ [e]) k (by rw [← h]; simp) (by simp at hk; omega)
  have e2 : H ++ (u ++ [e]).map (ownE i) = (H ++ u.map (ownE i)) ++ [ownE i e] := by simp
  rw [e2, List.map_append (l₁ := H ++ u.map (ownE i)) (l₂ := [ownE i e]), ← Qbr (H ++ u.map (ownE i)) (ownE i e) (H ++ u.map (ownE i)).isEmpty] at ih
  rw [Qit, hw1]
  refine stO _ rfl (stT (decT (by simp; omega)) (stO _ rfl (stO _ (QaN hg) (stC rfl (stO _ rfl (stC (decT (by simp; omega)) (stO _ rfl (stO _ (QaN hg) (stC rfl (stO _ rfl (stO _ rfl (stC (decT (by simp; omega)) (stC rfl (stC (Qa8 (by simp; omega) (by omega)) ih))))))))))))))
theorem Qyq (p : Pc) (bn : Bool) (l : List Fl) (q : List Fl) (f : Fl) (t0 : List Fl) (hq : q ++ f :: t0 = l) (hql : q.length ≤ 1000) (b : Bool) (H : List (List CV)) (s140 : Bs) (yi yy : CV) (vg : Int) (c141 : List CV) (x1 x2 x3 x4 x5 x6 : CV) : ∀ (t u : List Fl), u ++ t = q → Evt fun n => ∀ k k0, t.length < k →
  Qfq lb n k k0 p.an (p.aps.map apcv) p.dn (p.dis.map dicv) bn (l.map flE) b H (q.length : Int) s140 yi vg yy c141 x1 x2 x3 x4 x5 x6 (.bool (u.any (Qet · f))) (u.length : Int) =
   Qi4 lb n k0 p.an (p.aps.map apcv) p.dn (p.dis.map dicv) bn (l.map flE) b H (q.length : Int) s140 yi vg yy c141 x1 x2 x3 x4 x5 x6 (.bool (q.any (Qet · f))) (q.length : Int)
 | [], u, h => by
  refine .all fun n k k0 hk => ?_
  obtain ⟨k, rfl⟩ : ∃ m, k = m + 1 := ⟨k - 1, by simp at hk; omega⟩
  have hu : u = q := by simpa using h
  rw [Qir, hu]
  exact stF (decF (by simp)) rfl
 | x :: t, u, h => by
  have hl : q.length = u.length + (t.length + 1) := by rw [← h]; simp
  have hw1 : IntKind.wrap .i64 ((u.length : Int) + 1) = ((u ++ [x]).length : Int) := by rw [Qaz (by omega) (by omega)]; simp
  have hx : (l.map flE)[u.length]? = some (flE x) := by rw [← hq, ← h]; simp
  refine Evt.imp2 (QsA lb x f) (Qyq p bn l q f t0 hq hql b H s140 yi yy vg c141 x1 x2 x3 x4 x5 x6 t (u ++ [x]) (by rw [← h]; simp)) fun n hm hi k k0 hk => ?_
  obtain ⟨k, rfl⟩ : ∃ m, k = m + 1 := ⟨k - 1, by simp at hk; omega⟩
  have hi := hi k k0 (by simp at hk; omega)
  rw [Qir, hw1]
  refine stT (decT (by omega)) (stO _ (QaK _) ?_)
  cases ha : u.any (Qet · f) with
  | true =>
   have e : (u ++ [x]).any (Qet · f) = true := by rw [List.any_append, ha]; rfl
   rw [e] at hi
   exact stT rfl hi
  | false =>
   have e : (u ++ [x]).any (Qet · f) = Qet x f := by rw [List.any_append, ha]; simp
   rw [e] at hi
   exact stF rfl (stO _ (QaN hx) (stC rfl (stO _ rfl (stO _ rfl (stO _ rfl (stO _ rfl (stO _ rfl (stO _ rfl (stO _ (QaN (Qc4 hq)) (stC rfl (stO _ rfl (stO _ rfl (stO _ rfl (stO _ rfl (stO _ rfl (stO _ rfl (stO _ hm hi)))))))))))))))))
theorem Qym (p : Pc) (hp : QbT p) (bn : Bool) (l : List Fl) (hl : ∀ f ∈ l, QnX f) (hll : l.length ≤ 1000) : ∀ (t q : List Fl) (H : List Ft), q ++ t = l → H.length ≤ 51 * q.length → Evt fun n => ∀ k, t.length < k →
  QgV lb n k p.an (p.aps.map apcv) p.dn (p.dis.map dicv) bn (l.map flE) H.isEmpty (H.map Qba) (q.length : Int) = some (Qb6 (H ++ QiI p q t))
 | [], q, H, h, hH => by
  refine .all fun n k hk => ?_
  obtain ⟨k, rfl⟩ : ∃ m, k = m + 1 := ⟨k - 1, by simp at hk; omega⟩
  have hu : q = l := by simpa using h
  rw [QiB, hu]
  refine stF (decF (by simp)) ?_
  rw [QqK]
  simp [QiI, Qb6]
 | f :: t, q, H, h, hH => by
  have hlen : l.length = q.length + (t.length + 1) := by rw [← h]; simp
  have hw1 : IntKind.wrap .i64 ((q.length : Int) + 1) = ((q ++ [f]).length : Int) := by rw [Qaz (by omega) (by omega)]; simp
  obtain ⟨g1, g2⟩ := hl f (by rw [← h]; simp)
  have hf8 := Qy5 p q.length (q.any (Qet · f)) f
  have hc := Qlv p f
  have hit := QeR (z := (q.length : Int)) (by omega) (by omega)
  have q4 := Qyq lb p bn l q f t h (by omega) (H ++ (QaY p f).map (ownE q.length)).isEmpty ((H ++ (QaY p f).map (ownE q.length)).map Qba) (Lib.itoa (q.length : Int)) (Qb6 (QaY p f)) (.str (Lib.itoa (q.length : Int))) ((QaY p f).length : Int) (flE f) (.str f.car) (.int .i64 f.num) (.int .i64 f.fr) (.int .i64 f.to) (.int .i64 f.days) (.list f.ln (f.legs.map lgcv)) q [] rfl
  refine Evt.imp2 ((Qfl lb (q.length : Int) (by omega) (by omega)).and ((Qih lb p hp f (by omega) (fun x hx => by have := g2 x hx; omega)).and (Evt.ge 1100))) (Evt.and q4 (Qym p hp bn l hl hll t (q ++ [f]) (H ++ ft8 p q.length (q.any (Qet · f)) f) (by rw [← h]; simp) (by simp; omega))) fun n ⟨a1, a2, a3⟩ ⟨a4, hi⟩ k hk => ?_
  obtain ⟨k, rfl⟩ : ∃ m, k = m + 1 := ⟨k - 1, by simp at hk; omega⟩
  have hi := hi k (by simp at hk; omega)
  have a4 := a4 n k (by omega)
  have z := Qyy lb n k p bn (l.map flE) q.length (by omega) f (.str (Lib.itoa (q.length : Int))) H (by omega) (QaY p f) [] n rfl (by omega)
  rw [List.map_nil, List.append_nil] at z
  rw [QiB]
  refine stT (decT (by simp; omega)) (stO _ a1 (stO _ rfl (stC (decT (by simp; omega)) (stO _ (QaN (Qc4 h)) (stC rfl (stO _ rfl (stO _ rfl (stO _ rfl (stO _ rfl (stO _ rfl (stO _ rfl (stO _ a2 (z.trans ?_)))))))))))))
  rw [QqS]
  refine a4.trans ?_
  rw [Qp3]
  refine stO _ (QaK _) ?_
  have e9 : QiI p q (f :: t) = ft8 p q.length (q.any (Qet · f)) f ++ QiI p (q ++ [f]) t := rfl
  rw [e9, ← List.append_assoc]
  cases ha : q.any (Qet · f) with
  | true =>
   rw [ha] at hi
   have e : H ++ ft8 p q.length true f = (H ++ (QaY p f).map (ownE q.length)) ++ [(6, atS q.length)] := by simp [ft8]
   rw [e] at hi ⊢
   rw [List.map_append (l₁ := H ++ (QaY p f).map (ownE q.length)) (l₂ := [(6, atS q.length)]), ← Qbr (H ++ (QaY p f).map (ownE q.length)) (6, atS q.length) (H ++ (QaY p f).map (ownE q.length)).isEmpty] at hi
   refine stT rfl (stC (Qa8 (by simp; omega) (by omega)) ?_)
   rw [QjD, hw1]
   exact hi
  | false =>
   rw [ha] at hi
   have e : H ++ ft8 p q.length false f = H ++ (QaY p f).map (ownE q.length) := by simp [ft8]
   rw [e] at hi ⊢
   refine stF rfl ?_
   rw [QjD, hw1]
   exact hi
theorem Qs4 (p : Pc) (hp : QbT p) (bn : Bool) (l : List Fl) (hl : ∀ f ∈ l, QnX f) (hll : l.length ≤ 1000) : Ret lb Qag [pcv p, .list bn (l.map flE)] (Qb6 (QiI p [] l)) := by
 refine .top rfl ((Evt.diag (Qym lb p hp bn l hl hll l [] [] rfl (by simp))).mono fun n h => ?_)
 rw [QtQ]
 exact h
theorem QrP {p : Pc} : ∀ {t q : List Fl}, QiI p q t = [] → (∀ f ∈ t, QaY p f = []) 
 | [], q, _ => by simp
 | f :: t, q, h => by
  unfold QiI at h
  obtain ⟨h1, h2⟩ := List.append_eq_nil_iff.1 h
  intro g hg
  rcases List.mem_cons.1 hg with rfl | hg
  ·unfold ft8 at h1
   obtain ⟨h3, _⟩ := List.append_eq_nil_iff.1 h1
   exact List.map_eq_nil_iff.1 h3
  ·exact QrP h2 g hg
end Go.Proofs
set_option linter.unusedSimpArgs false
set_option linter.unusedVariables false
namespace Go.Proofs
open Go.Am
variable (lb : Nat)
def ArgL (l : List Fl) : Prop := l.length ≤ 281474976710656 ∧ ∀ f ∈ l, ArgF f ∧ (f.ln = true → f.legs = [])
def ArgR (r : Rv) : Prop := r.car.length ≤ 281474976710656 ∧ r.legs.length ≤ 281474976710656 ∧ (∀ x ∈ r.legs, Qdc x ≤ 1000000000000000) ∧ (r.ln = true → r.legs = [])
def Qk1 (p : Pc) (l : List Fl) : Bool := decide (l.length > 12) || (decide (p.aps.length > 20) || (decide (p.dis.length > 40) || l.any (bigB p)))
theorem Qxg (p : Pc) (hp : ArgP p) (bn : Bool) (l : List Fl) (hl : ∀ f ∈ l, ArgF f) (hll : l.length ≤ 1000) : ∀ (t u : List Fl), u ++ t = l → Evt fun n => ∀ k, t.length < k →
  r10_Big_L1 lb n k p.an (p.aps.map apcv) p.dn (p.dis.map dicv) bn (l.map flE) (u.length : Int) = some (.bool (t.any (bigB p)))
 | [], u, h => by
  refine .all fun n k hk => ?_
  obtain ⟨k, rfl⟩ : ∃ m, k = m + 1 := ⟨k - 1, by simp at hk; omega⟩
  have hu : u = l := by simpa using h
  rw [Qj9, hu]
  refine stF (decF (by simp)) ?_
  rw [QsQ]
  rfl
 | f :: t, u, h => by
  have hlen : l.length = u.length + (t.length + 1) := by rw [← h]; simp
  have hw1 : IntKind.wrap .i64 ((u.length : Int) + 1) = ((u ++ [f]).length : Int) := by rw [Qaz (by omega) (by omega)]; simp
  refine Evt.imp2 (QyH lb p f hp (hl f (by rw [← h]; simp))) (Qxg p hp bn l hl hll t (u ++ [f]) (by rw [← h]; simp)) fun n hm hi k hk => ?_
  obtain ⟨k, rfl⟩ : ∃ m, k = m + 1 := ⟨k - 1, by simp at hk; omega⟩
  have hi := hi k (by simp at hk; omega)
  rw [Qj9, hw1]
  refine stT (decT (by simp; omega)) (stO _ (QaN (Qc4 h)) (stC rfl (stO _ rfl (stO _ rfl (stO _ rfl (stO _ rfl (stO _ rfl (stO _ rfl (stO _ hm (stO _ (QaK _) ?_))))))))))
  rw [List.any_cons]
  cases bigB p f with
  | true => exact stT rfl rfl
  | false => exact stF rfl (by simpa using hi)
theorem Qkk (p : Pc) (hp : ArgP p) (bn : Bool) (l : List Fl) (hl : ArgL l) : Ret lb Qc3 [pcv p, .list bn (l.map flE)] (.bool (Qk1 p l)) := by
 unfold Qk1
 by_cases h1 : l.length > 12
 ·refine .top rfl (.all fun n => ?_)
  rw [QiR, decT h1]
  exact stT (decT (by simp; omega)) rfl
 ·by_cases h2 : p.aps.length > 20
  ·refine .top rfl (.all fun n => ?_)
   rw [QiR, decF h1, decT h2]
   exact stF (decF (by simp; omega)) (stT (decT (by simp; omega)) rfl)
  ·by_cases h3 : p.dis.length > 40
   ·refine .top rfl (.all fun n => ?_)
    rw [QiR, decF h1, decF h2, decT h3]
    exact stF (decF (by simp; omega)) (stF (decF (by simp; omega)) (stT (decT (by simp; omega)) rfl))
   ·refine .top rfl ((Evt.diag (Qxg lb p hp bn l (fun f hf => (hl.2 f hf).1) (by omega) l [] rfl)).mono fun n h => ?_)
    rw [QiR, decF h1, decF h2, decF h3]
    exact stF (decF (by simp; omega)) (stF (decF (by simp; omega)) (stF (decF (by simp; omega)) h))
def Qnq (p : Pc) (l : List Fl) : Bool := !Qk1 p l && ((QhG p).isEmpty && (QiI p [] l).isEmpty)
theorem Qnw {p : Pc} {l : List Fl} (h : Qk1 p l = false) : l.length ≤ 12 ∧ p.aps.length ≤ 20 ∧ p.dis.length ≤ 40 ∧ ∀ f ∈ l, bigB p f = false := by
 unfold Qk1 at h
 simp only [Bool.or_eq_false_iff, decide_eq_false_iff_not] at h
 obtain ⟨h1, h2, h3, h4⟩ := h
 refine ⟨by omega, by omega, by omega, fun f hf => ?_⟩
 have := List.any_eq_false.1 h4 f hf
 simpa using this
theorem Qwz (F : List Ft) : (((F.map Qba).length : Int) == 0) = F.isEmpty := by cases F with
 | nil => rfl
 | cons e F => exact beqF (by simp; omega)
theorem QsV (p : Pc) (hp : ArgP p) (bn : Bool) (l : List Fl) (hl : ArgL l) : Ret lb Qkw [pcv p, .list bn (l.map flE)] (.bool (Qnq p l)) := by
 unfold Qnq
 cases hB : Qk1 p l with
 | true =>
  refine .top rfl ((Qkk lb p hp bn l hl).mono fun n h => ?_)
  rw [Qi2]
  exact stO _ h (stO _ rfl (stF (by rw [hB]; rfl) rfl))
 | false =>
  obtain ⟨b1, b2, b3, b4⟩ := Qnw hB
  have hP := QsS lb p (by omega) (by omega) hp.2.2
  cases hF : (QhG p).isEmpty with
  | false =>
   refine .top rfl (Evt.imp2 (Qkk lb p hp bn l hl) hP fun n h h2 => ?_)
   rw [Qi2]
   exact stO _ h (stO _ rfl (stT (by rw [hB]; rfl) (stO _ h2 (stO _ rfl (stF (by rw [Qwz, hF]) rfl)))))
  | true =>
   have hS := QkV (p := p) (by omega) (by simpa using hF)
   have h8 := Qs4 lb p hS bn l (fun f hf => by
    obtain ⟨c1, c2, _⟩ := QlK (b4 f hf)
    exact ⟨by omega, fun x hx => by have := (c2 x hx).2.2; omega⟩) (by omega)
   refine .top rfl (Evt.imp2 (Qkk lb p hp bn l hl) (Evt.and hP h8) fun n h ⟨h2, h3⟩ => ?_)
   rw [Qi2]
   refine stO _ h (stO _ rfl (stT (by rw [hB]; rfl) (stO _ h2 (stO _ rfl (stT (by rw [Qwz, hF]) (stO _ h3 (stO _ rfl ?_)))))))
   rw [Qwz]; rfl
theorem QxX {p : Pc} {l : List Fl} (hl : ArgL l) (h : Qnq p l = true) : QbT p ∧ (∀ f ∈ l, OkF f) ∧ l.length ≤ 12 ∧ ∀ f ∈ l, QaY p f = [] := by
 unfold Qnq at h
 simp only [Bool.and_eq_true, Bool.not_eq_true', List.isEmpty_iff] at h
 obtain ⟨h1, h2, h3⟩ := h
 obtain ⟨b1, b2, b3, b4⟩ := Qnw h1
 have hc := QrP h3
 refine ⟨QkV (p := p) (by omega) h2, fun f hf => ?_, b1, hc⟩
 obtain ⟨c1, c2, c3, _⟩ := QlK (b4 f hf)
 obtain ⟨k1, k2, _⟩ := QvQ (hc f hf)
 have hne : f.legs ≠ [] := fun e => by rw [e] at k2; simp at k2
 exact ⟨by cases hb : f.ln with | false => rfl | true => exact absurd ((hl.2 f hf).2 hb) hne, hne, by omega, by omega, fun x hx => by have := (c2 x hx).2.2; omega⟩
def Qm3 (r : Rv) : Bool := decide (r.eq.length ≤ 100) && !bigB pc0 ⟨r.car, 0, 0, 0, 0, r.ln, r.legs⟩
theorem QsE (r : Rv) (hr : ArgR r) : Ret lb Qko [rvcv r] (.bool (Qm3 r)) := by
 have hb := QoD lb pc0 ⟨r.car, 0, 0, 0, 0, r.ln, r.legs⟩ hr.1 hr.2.2.1 hr.2.1 (by simp [pc0]) (by simp [pc0])
 refine .top rfl (hb.mono fun n h => ?_)
 rw [QuC]
 unfold Qm3
 by_cases h1 : r.eq.length ≤ 100
 ·rw [decT h1]
  exact stT (decT (by omega)) (stO _ h (stO _ rfl rfl))
 ·rw [decF h1]
  exact stF (decF (by omega)) rfl
theorem Qx0 {r : Rv} (h : Qm3 r = true) : OkR r ∧ r.legs.length ≤ 12 := by
 unfold Qm3 at h
 simp only [Bool.and_eq_true, Bool.not_eq_true', decide_eq_true_eq] at h
 obtain ⟨c1, c2, c3, _⟩ := QlK h.2
 exact ⟨⟨by have : r.car.length ≤ 400 := c1; omega, by omega, fun x hx => by have := (c2 x hx).2.2; omega⟩, c3⟩
theorem QwI (a b : Bool) (l : List Fl) (hl : ∀ f ∈ l, f.legs.length ≤ 1000) (hll : l.length ≤ 1000000) : ∀ (t u : List Fl), u ++ t = l → Evt fun n => ∀ k, t.length < k →
  QfU lb n k a (l.map flE) b (l.map flE) (u.length : Int) = some (.bool true)
 | [], u, h => by
  refine .all fun n k hk => ?_
  obtain ⟨k, rfl⟩ : ∃ m, k = m + 1 := ⟨k - 1, by simp at hk; omega⟩
  have hu : u = l := by simpa using h
  rw [Qhb, hu]
  refine stF (decF (by simp)) ?_
  rw [QnY]
 | f :: t, u, h => by
  have hlen : l.length = u.length + (t.length + 1) := by rw [← h]; simp
  have hw1 : IntKind.wrap .i64 ((u.length : Int) + 1) = ((u ++ [f]).length : Int) := by rw [Qaz (by omega) (by omega)]; simp
  have hf := hl f (by rw [← h]; simp)
  refine Evt.imp2 (QtM lb f f hf hf) (QwI a b l hl hll t (u ++ [f]) (by rw [← h]; simp)) fun n hm hi k hk => ?_
  obtain ⟨k, rfl⟩ : ∃ m, k = m + 1 := ⟨k - 1, by simp at hk; omega⟩
  have hi := hi k (by simp at hk; omega)
  have hs : Qtb f f = true := by simp [Qtb, Qsn]
  rw [hs] at hm
  rw [Qhb, hw1]
  exact stT (decT (by simp; omega)) (stO _ (QaN (Qc4 h)) (stC rfl (stO _ rfl (stO _ rfl (stO _ rfl (stO _ rfl (stO _ rfl (stO _ rfl (stO _ (QaN (Qc4 h)) (stC rfl (stO _ rfl (stO _ rfl (stO _ rfl (stO _ rfl (stO _ rfl (stO _ rfl (stO _ hm (stO _ rfl (stF rfl hi)))))))))))))))))))
theorem QtL (a b : Bool) (l : List Fl) (hl : ∀ f ∈ l, f.legs.length ≤ 1000) (hll : l.length ≤ 1000000) : Ret lb QbO [.list a (l.map flE), .list b (l.map flE)] (.bool true) := by
 refine .top rfl ((Evt.diag (QwI lb a b l hl hll l [] rfl)).mono fun n h => ?_)
 rw [Qrz]
 exact stF (bneF rfl) h
theorem Qvz {g z : Fl} : ∀ {P : List Fl}, z ∈ insF g P → z = g ∨ z ∈ P
 | [], h => by simp [insF] at h; exact .inl h
 | y :: t, h => by
  unfold insF at h
  split at h
  ·rcases List.mem_cons.1 h with h | h
   ·exact .inl h
   ·exact .inr h
  ·rcases List.mem_cons.1 h with h | h
   ·exact .inr (by rw [h]; simp)
   ·rcases Qvz h with h | h
    ·exact .inl h
    ·exact .inr (by simp [h])
def From (r : Rv) (l : List Fl) (z : Fl) : Prop := z ∈ l ∨ (∃ f ∈ l, QbJ f r = true ∧ z ∈ QaW f r) ∨ z ∈ newR r l
theorem QrU (r : Rv) : ∀ (l : List Fl) (z : Fl), z ∈ outR r l → From r l z
 | [], z, h => by simp [outR] at h
 | f :: t, z, h => by
  unfold outR at h
  rcases List.mem_append.1 h with h | h
  ·cases ht : QbJ f r with
   | false => rw [ht] at h; simp at h; exact .inl (by simp [h])
   | true =>
    rw [ht] at h
    simp only [if_true] at h
    unfold QbP at h
    split at h
    ·exact .inr (.inl ⟨f, by simp, ht, h⟩)
    ·rename_i hk
     rcases Qvz h with h | h
     ·exact .inr (.inr (by unfold newR; simp [ht, hk, h]))
     ·exact .inr (.inl ⟨f, by simp, ht, h⟩)
  ·rcases QrU r t z h with h | ⟨g, hg, h1, h2⟩ | h
   ·exact .inl (by simp [h])
   ·exact .inr (.inl ⟨g, by simp [hg], h1, h2⟩)
   ·exact .inr (.inr (by unfold newR; simp [h]))
theorem QrT (r : Rv) : ∀ (l : List Fl) (z : Fl), z ∈ newR r l → ∃ f ∈ l, QbJ f r = true ∧ z = Qap r f (qOf f r)
 | [], z, h => by simp [newR] at h
 | f :: t, z, h => by
  unfold newR at h
  rcases List.mem_append.1 h with h | h
  ·split at h
   ·rename_i hh
    simp only [Bool.and_eq_true] at hh
    exact ⟨f, by simp, hh.1, by simpa using h⟩
   ·simp at h
  ·obtain ⟨g, h1, h2, h3⟩ := QrT r t z h
   exact ⟨g, by simp [h1], h2, h3⟩
theorem QuQ {r : Rv} {f : Fl} {q : P3} (h1 : f.legs.length ≤ 100) (h2 : r.legs.length ≤ 100) : (Qap r f q).legs.length ≤ 100 := by
 unfold Qap
 split
 ·exact h2
 ·simpa using h1
theorem Qx2 {p : Pc} {l : List Fl} {r : Rv} (hl : ∀ f ∈ l, f.legs.length ≤ 100) (hr : r.legs.length ≤ 100) : ∀ z ∈ (resF p l r).1, z.legs.length ≤ 100 := by
 have ho : ∀ z ∈ outR r l, z.legs.length ≤ 100 := fun z hz => by
  rcases QrU r l z hz with h | ⟨f, hf, _, h⟩ | h
  ·exact hl z h
  ·obtain ⟨x, _, rfl⟩ := List.mem_map.1 h
   exact hl f hf
  ·obtain ⟨f, hf, _, rfl⟩ := QrT r l z h
   exact QuQ (hl f hf) hr
 have hc : ∀ (out new : List Fl), (∀ z ∈ out, z.legs.length ≤ 100) → ∀ z ∈ (chkR p out new).1, z.legs.length ≤ 100 := fun out new h z hz => by
  unfold chkR at hz
  split at hz
  ·simp at hz
  ·exact h z hz
 intro z hz
 unfold resF at hz
 split at hz
 ·simp at hz
 ·split at hz
  ·simp at hz
  ·split at hz
   ·split at hz
    ·refine hc _ _ (fun z hz => ?_) z hz
     rcases List.mem_append.1 hz with h | h
     ·exact ho z h
     ·simp at h; subst h; exact hr
    ·simp at hz
   ·split at hz
    ·simp at hz
    ·exact hc _ _ ho z hz
theorem QyO (p : Pc) (l : List Fl) (r : Rv) : (resF p l r).1.length ≤ 4 * l.length + 1 := by
 have h := Qpb r l
 have hc : ∀ (out new : List Fl), (chkR p out new).1.length ≤ out.length := fun out new => by
  unfold chkR
  split <;> simp
 unfold resF
 split
 ·simp
 ·split
  ·simp
  ·split
   ·split
    ·have := hc (outR r l ++ [Qdz r]) (newR r l ++ [Qdz r])
     simp at this; omega
    ·simp
   ·split
    ·simp
    ·have := hc (outR r l) (newR r l); omega
theorem QmB (p : Pc) (hp : ArgP p) (bn : Bool) (l : List Fl) (hl : ArgL l) (r : Rv) (hr : ArgR r) : Ret lb Qgz [pcv p, .list bn (l.map flE), rvcv r] (.bool true) := by
 have aw := QwG lb
 have rt := QsV lb p hp bn l hl
 cases hR : Qnq p l with
 | false =>
  refine .top rfl (Evt.imp2 rt aw fun n h1 h2 => ?_)
  rw [Qed]
  exact stO _ h1 (stO _ rfl (stT (by rw [hR]; rfl) (stO _ h2 rfl)))
 | true =>
  obtain ⟨r1, r2, r3, r4⟩ := QxX hl hR
  have sm := QsE lb r hr
  cases hS : Qm3 r with
  | false =>
   refine .top rfl (Evt.imp2 rt (Evt.and sm aw) fun n h1 ⟨h2, h3⟩ => ?_)
   rw [Qed]
   exact stO _ h1 (stO _ rfl (stF (by rw [hR]; rfl) (stO _ h2 (stO _ rfl (stT (by rw [hS]; rfl) (stO _ h3 rfl))))))
  | true =>
   obtain ⟨s1, s2⟩ := Qx0 hS
   have a1 := Qmq lb p r1 r s1 bn l r2 (by omega)
   rw [QxH] at a1
   have a2 := QsU lb p r1 r s1 bn l r2 (by omega)
   have rl := QyO p l r
   have sa := QtL lb (resF p l r).1.isEmpty (resF p l r).1.isEmpty (resF p l r).1 (fun z hz => by have := Qx2 (p := p) (fun f hf => (r2 f hf).len) (by omega) z hz; omega) (by omega)
   refine .top rfl (Evt.imp2 (rt.and (Evt.and sm aw)) (Evt.and a1 (Evt.and a2 sa)) fun n ⟨h1, h2, h3⟩ ⟨h4, h5, h6⟩ => ?_)
   rw [Qed]
   exact stO _ h1 (stO _ rfl (stF (by rw [hR]; rfl) (stO _ h2 (stO _ rfl (stF (by rw [hS]; rfl) (stO _ h4 (stO _ rfl (stO _ rfl (stO _ rfl (stO _ rfl (stO _ h5 (stO _ rfl (stO _ rfl (stO _ rfl (stO _ rfl (stO _ h6 (stO _ rfl (stT rfl (stO _ (QaD ..) (stO _ (QaD ..) (stT (beqT rfl) (stO _ h3 rfl))))))))))))))))))))))
end Go.Proofs
set_option linter.unusedSimpArgs false
set_option linter.unusedVariables false
namespace Go.Proofs
open Go.Am
variable (lb : Nat)
def rvE (r : Rv) : List CV := [.int .i64 r.kind, .str r.car, .int .i64 r.num, .int .i64 r.fr, .int .i64 r.to, .int .i64 r.days, .int .i64 r.min, .str r.eq, .list r.ln (r.legs.map lgcv)]
end Go.Proofs
