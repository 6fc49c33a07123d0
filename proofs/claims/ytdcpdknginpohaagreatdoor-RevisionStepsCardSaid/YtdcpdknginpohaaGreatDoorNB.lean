/- Chapter 10 on plain data: the stable sort of a few flights by their first days (printed by mkns.py). Conditions: as each says. -/
import Derived.Test.YtdcpdknginpohaaGreatDoorVs
import Derived.Test.YtdcpdknginpohaaGreatDoorKB
import Derived.Test.YtdcpdknginpohaaGreatDoorNA
import Derived.Test.YtdcpdknginpohaaGreatDoorNh
import Derived.Test.YtdcpdknginpohaaGreatDoorKC
import Derived.Test.YtdcpdknginpohaaGreatDoorVd
import Derived.Test.YtdcpdknginpohaaGreatDoorW10
set_option linter.unusedSimpArgs false
set_option linter.unusedVariables false
set_option maxRecDepth 100000
namespace Go.Proofs
open Go.Am
variable (lb : Nat)
theorem QuO {ι : Type} {f : FuncId} {args : ι → List CV} {r : ι → CV} (hL : L lb f = none) (h : Evt fun n => ∀ i, top lb n f (args i) = some (r i)) : Evt fun n => ∀ i, C lb n f (args i) = some (r i) := by
 obtain ⟨N, hN⟩ := h
 refine ⟨N + 1, fun n hn i => ?_⟩
 obtain ⟨m, rfl⟩ : ∃ m, n = m + 1 := ⟨n - 1, by omega⟩
 rw [QyN lb m f (args i) hL]
 exact hN m (by omega) i
def cmpI (a b : Int) : Int := if a < b then -1 else if a > b then 1 else 0
theorem Qts : Evt fun n => ∀ a : Int, C lb n Qfs [.int .i64 a] = some (.bool false) := QuO lb rfl (.all fun n a => by rw [Qps]; simp)
theorem Qp9 : Evt fun n => ∀ p : Int × Int, C lb n Qf5 [.int .i64 p.1, .int .i64 p.2] = some (.int .i64 (cmpI p.1 p.2)) := by
 refine QuO lb rfl ((Qts lb).mono fun n h p => ?_)
 obtain ⟨a, b⟩ := p
 rw [QnL]
 refine stO _ (h a) (stO _ (h b) (stO _ rfl (stF rfl (stO _ rfl (stF rfl ?_)))))
 unfold cmpI
 by_cases c : a < b
 ·rw [if_pos c]; exact stT (decT c) rfl
 ·rw [if_neg c]
  by_cases d : a > b
  ·rw [if_pos d]; exact stF (decF c) (stT (decT d) rfl)
  ·rw [if_neg d]; exact stF (decF c) (stF (decF d) rfl)
def flE (f : Fl) : List CV := [.str f.car, .int .i64 f.num, .int .i64 f.fr, .int .i64 f.to, .int .i64 f.days, .list f.ln (f.legs.map lgcv)]
def Cmp (n : Nat) : Prop := ∀ p : Fl × Fl, C lb n Qae [.agg (flE p.1), .agg (flE p.2)] = some (.int .i64 (cmpI p.1.fr p.2.fr))
theorem Qy7 : Evt fun n => Cmp lb n := by
 refine QuO lb rfl ((Qp9 lb).mono fun n h p => ?_)
 unfold flE
 rw [QmB]
 exact stO _ (h (p.1.fr, p.2.fr)) rfl
def insR (x : Fl) : List Fl → List Fl
 | [] => [x]
 | y :: r => if x.fr < y.fr then y :: insR x r else x :: y :: r
def QeV : List Fl → List Fl → List Fl
 | S, [] => S
 | S, x :: R => QeV (insR x S.reverse).reverse R
theorem Qhu (x : Fl) : ∀ S : List Fl, (insR x S).length = S.length + 1
 | [] => rfl
 | y :: r => by
  unfold insR
  split
  ·simp [Qhu x r]
  ·simp
theorem QmS : ∀ (R S : List Fl), (QeV S R).length = S.length + R.length
 | [], S => rfl
 | x :: R, S => by rw [QeV, QmS R]; simp [Qhu]; omega
theorem QrF {α : Type} (Q : List α) (x a : α) : ∀ P : List α, setN (P ++ x :: Q) P.length a = P ++ a :: Q
 | [] => rfl
 | p :: P => by
  show p :: setN (P ++ x :: Q) P.length a = _
  rw [QrF Q x a P]; rfl
theorem QrX {α : Type} (P Q : List α) (y x a : α) : setN (P ++ y :: x :: Q) (P.length + 1) a = P ++ y :: a :: Q := by
 have := QrF Q x a (P ++ [y])
 simpa using this
theorem set2 {α : Type} (P Q : List α) (y x a b : α) : setN (setN (P ++ y :: x :: Q) (P.length + 1) a) P.length b = P ++ b :: a :: Q := by
 rw [QrX, QrF]
theorem Qgq (k : Nat) : 0 + ((k : Int)).toNat = k := by omega
theorem QxN {k : Nat} (h : k ≤ 1000) : IntKind.wrap .i64 (((k + 1 : Nat) : Int) - 1) = (k : Int) := by
 rw [Qaz (by omega) (by omega)]; omega
theorem Qxr (n jK wc : Nat) (wa jC wG : Int) (wk : Bool) (wi : List (List CV)) (wh : Bool) (wg : List (List CV)) (wj : List UInt8) (wl jT jQ jP : Int) (jR : Bool) (jO : List (List CV)) (jS : Int) (jU : List UInt8) (jW jZ jN jY jV : Int) (jX : List UInt8) (j0 : Bool) (j5 wK : List (List CV)) (wR wQ wP wS wT wO : CV) (K : AV → List (List (Option (List AV))) → Option CV) (w4 : Nat) (wU : Int) (h0 : jC = 0) (hc : Cmp lb n) (x : Fl) : ∀ (P Q : List Fl) (k : Nat), P.length < k → jK = P.length + 1 + Q.length → jK ≤ 1000 →
  QbG lb n k jK wc wa jC wG wk wi wh wg wj wl jT jQ jP jR jO jS jU jW jZ jN jY jV jX j0 j5 wK wR wQ wP wS wT wO K w4 wU (P.length : Int) ((P.reverse ++ x :: Q).map flE) =
   Qbh lb n w4 jK wc wa jC wG wk wi wh wg wj wl jT jQ jP jR jO jS jU jW jZ jN jY jV jX j0 j5 wK wR wQ wP wS wT wO K (IntKind.wrap .i64 (wU + 1)) (((insR x P).reverse ++ Q).map flE)
 | [], Q, k, hk, hm, h1 => by
  obtain ⟨k, rfl⟩ : ∃ m, k = m + 1 := ⟨k - 1, by simp at hk; omega⟩
  rw [QcK]
  refine stF (decF (by subst h0; simp)) ?_
  rw [Qc5]
  rfl
 | y :: P, Q, k, hk, hm, h1 => by
  obtain ⟨k, rfl⟩ : ∃ m, k = m + 1 := ⟨k - 1, by simp at hk; omega⟩
  have hL : (P.reverse.map flE).length = P.length := by simp
  have e0 : ((y :: P).reverse ++ x :: Q).map flE = P.reverse.map flE ++ flE y :: flE x :: Q.map flE := by simp
  have e1 : (P.reverse.map flE ++ flE y :: flE x :: Q.map flE)[0 + (((y :: P).length : Int)).toNat]? = some (flE x) := by
   rw [Qgq, List.getElem?_append_right (by simp)]; simp
  have w1 : IntKind.wrap .i64 (((y :: P).length : Int) - 1) = (P.length : Int) := by
   rw [List.length_cons]; exact QxN (by simp only [List.length_cons] at hm; omega)
  have e2 : (P.reverse.map flE ++ flE y :: flE x :: Q.map flE)[0 + ((P.length : Int)).toNat]? = some (flE y) := by
   rw [Qgq, List.getElem?_append_right (by simp)]; simp
  have b1 : (decide (0 ≤ (((y :: P).length : Nat) : Int)) && decide ((((y :: P).length : Nat) : Int) < ((jK : Nat) : Int))) = true := by
   rw [Bool.and_eq_true, decide_eq_true_eq, decide_eq_true_eq]; simp only [List.length_cons] at hm ⊢; omega
  have b2 : (decide (0 ≤ ((P.length : Nat) : Int)) && decide (((P.length : Nat) : Int) < ((jK : Nat) : Int))) = true := by
   rw [Bool.and_eq_true, decide_eq_true_eq, decide_eq_true_eq]; simp only [List.length_cons] at hm ⊢; omega
  rw [QcK, e0, w1]
  refine stT (decT (by subst h0; simp only [List.length_cons]; omega)) (stC b1 (stO _ e1 (stO _ rfl (stO _ rfl (stO _ rfl (stO _ rfl (stO _ rfl (stO _ rfl (stC b2 (stO _ e2 (stO _ rfl (stO _ rfl (stO _ rfl (stO _ rfl (stO _ rfl (stO _ rfl (stO _ (hc (x, y)) (stO _ (QaB ..) ?_))))))))))))))))))
  by_cases hlt : x.fr < y.fr
  ·have e3 : (setN (P.reverse.map flE ++ flE y :: flE x :: Q.map flE) (0 + (((y :: P).length : Int)).toNat) (flE y))[0 + ((P.length : Int)).toNat]? = some (flE y) := by
    have := QrX (P.reverse.map flE) (Q.map flE) (flE y) (flE x) (flE y)
    rw [hL] at this
    rw [Qgq, Qgq, List.length_cons, this, List.getElem?_append_right (by simp)]
    simp [setN]
   refine stT (decT (by simp [cmpI, hlt])) (stC b2 (stO _ e2 (stO _ rfl (stO _ rfl (stO _ rfl (stO _ rfl (stO _ rfl (stO _ rfl (stC b1 (stO _ e1 (stO _ rfl (stO _ rfl (stO _ rfl (stO _ rfl (stO _ rfl (stO _ rfl (stC b1 (stO _ e1 (stC rfl (stC b2 (stO _ e3 (stC rfl ?_))))))))))))))))))))))
   have e4 : setN (setN (P.reverse.map flE ++ flE y :: flE x :: Q.map flE) (0 + (((y :: P).length : Int)).toNat) (flE y)) (0 + ((P.length : Int)).toNat) (flE x) = (P.reverse ++ x :: y :: Q).map flE := by
    have := set2 (P.reverse.map flE) (Q.map flE) (flE y) (flE x) (flE y) (flE x)
    rw [hL] at this
    rw [Qgq, Qgq, List.length_cons, this]; simp
   have ih := Qxr n jK wc wa jC wG wk wi wh wg wj wl jT jQ jP jR jO jS jU jW jZ jN jY jV jX j0 j5 wK wR wQ wP wS wT wO K w4 wU h0 hc x P (y :: Q) k (by simp at hk; omega) (by simp at hm ⊢; omega) h1
   have e5 : (insR x (y :: P)).reverse ++ Q = (insR x P).reverse ++ y :: Q := by simp [insR, hlt]
   rw [e5]
   exact (congrArg _ e4).trans ih
  ·refine stF (decF (by unfold cmpI; rw [if_neg hlt]; split <;> omega)) ?_
   rw [Qc5]
   have e5 : (insR x (y :: P)).reverse ++ Q = P.reverse ++ y :: x :: Q := by simp [insR, hlt]
   rw [e5]
   simp
theorem QvP (n jK wc : Nat) (wa jC wG : Int) (wk : Bool) (wi : List (List CV)) (wh : Bool) (wg : List (List CV)) (wj : List UInt8) (wl jT jQ jP : Int) (jR : Bool) (jO : List (List CV)) (jS : Int) (jU : List UInt8) (jW jZ jN jY jV : Int) (jX : List UInt8) (j0 : Bool) (j5 wK : List (List CV)) (wR wQ wP wS wT wO : CV) (K : AV → List (List (Option (List AV))) → Option CV) (h0 : jC = 0) (hc : Cmp lb n) (hn : jK < n) (h3 : wa = (jK : Int)) : ∀ (R S : List Fl) (k : Nat), R.length < k → jK = S.length + R.length → jK ≤ 1000 →
  Qbh lb n k jK wc wa jC wG wk wi wh wg wj wl jT jQ jP jR jO jS jU jW jZ jN jY jV jX j0 j5 wK wR wQ wP wS wT wO K (S.length : Int) ((S ++ R).map flE) =
   QbI lb n n K jK wc wa jC wk wi wh wg wj wl jT jQ jP jR jO jS jU jW jZ jN jY jV jX j0 j5 wR wQ wP wS wT wO 20 jC wG ((QeV S R).map flE)
 | [], S, k, hk, hm, h1 => by
  obtain ⟨k, rfl⟩ : ∃ m, k = m + 1 := ⟨k - 1, by simp at hk; omega⟩
  rw [QcL]
  refine stF (decF (by simp at hm; omega)) ?_
  rw [List.append_nil]; rfl
 | x :: R, S, k, hk, hm, h1 => by
  obtain ⟨k, rfl⟩ : ∃ m, k = m + 1 := ⟨k - 1, by simp at hk; omega⟩
  rw [QcL]
  refine stT (decT (by simp at hm; omega)) ?_
  have ih := QvP n jK wc wa jC wG wk wi wh wg wj wl jT jQ jP jR jO jS jU jW jZ jN jY jV jX j0 j5 wK wR wQ wP wS wT wO K h0 hc hn h3 R (insR x S.reverse).reverse k (by simp at hk; omega) (by simp [Qhu] at hm ⊢; omega) h1
  have w1 : IntKind.wrap .i64 ((S.length : Int) + 1) = (((insR x S.reverse).reverse.length : Nat) : Int) := by
   rw [Qaz (by simp at hm; omega) (by simp at hm; omega)]; simp [Qhu]
  have st := Qxr lb n jK wc wa jC wG wk wi wh wg wj wl jT jQ jP jR jO jS jU jW jZ jN jY jV jX j0 j5 wK wR wQ wP wS wT wO K k (S.length : Int) h0 hc x S.reverse R n (by simp at hm ⊢; omega) (by simp at hm ⊢; omega) h1
  rw [List.reverse_reverse, List.length_reverse, w1] at st
  exact st.trans ih
theorem QvX (n : Nat) (K : AV → List (List (Option (List AV))) → Option CV) (jK wc : Nat) (wa : Int) (wk : Bool) (wi : List (List CV)) (wh : Bool) (wg : List (List CV)) (wj : List UInt8) (wl jT jQ jP : Int) (jR : Bool) (jO : List (List CV)) (jS : Int) (jU : List UInt8) (jW jZ jN jY jV : Int) (jX : List UInt8) (j0 : Bool) (j5 : List (List CV)) (wR wQ wP wS wT wO : CV) (jC : Int) (h0 : jC = 0) (hc : Cmp lb n) (hn : jK < n) (h3 : wa = (jK : Int)) (R : List Fl) (x : Fl) (hm : jK = R.length + 1) (h1 : jK ≤ 19) :
  Qcj lb n n K jK wc wa wk wi wh wg wj wl jT jQ jP jR jO jS jU jW jZ jN jY jV jX j0 j5 wR wQ wP wS wT wO jC 20 ((x :: R).map flE) =
   QbI lb n n K jK wc wa jC wk wi wh wg wj wl jT jQ jP jR jO jS jU jW jZ jN jY jV jX j0 j5 wR wQ wP wS wT wO 20 jC 20 ((QeV [x] R).map flE) := by
 obtain ⟨m, rfl⟩ : ∃ m, n = m + 1 := ⟨n - 1, by omega⟩
 have w : IntKind.wrap .i64 (jC + 1) = (([x].length : Nat) : Int) := by subst h0; rfl
 rw [QeK]
 refine stF (decF (by omega)) ?_
 rw [Qe9, w]
 exact QvP lb (m + 1) _ _ _ _ _ _ _ _ _ _ _ _ _ _ _ _ _ _ _ _ _ _ _ _ _ _ _ _ _ _ _ _ _ _ h0 hc hn h3 R [x] (m + 1) (by omega) (by simp; omega) (by omega)
theorem QvM (n jK wc : Nat) (wa jC wG : Int) (wk : Bool) (wi : List (List CV)) (wh : Bool) (wg : List (List CV)) (wj : List UInt8) (wl jT jQ jP : Int) (jR : Bool) (jO : List (List CV)) (jS : Int) (jU : List UInt8) (jW jZ jN jY jV : Int) (jX : List UInt8) (j0 : Bool) (j5 wK : List (List CV)) (K : AV → List (List (Option (List AV))) → Option CV) (w4 : Nat) (wU : Int) (h0 : jC = 0) (hc : Cmp lb n) (x : Fl) : ∀ (P Q : List Fl) (k : Nat), P.length < k → jK = P.length + 1 + Q.length → jK ≤ 1000 →
  Qbt lb n k jK wc wa jC wG wk wi wh wg wj wl jT jQ jP jR jO jS jU jW jZ jN jY jV jX j0 j5 wK K w4 wU (P.length : Int) ((P.reverse ++ x :: Q).map flE) =
   Qbe lb n w4 jK wc wa jC wG wk wi wh wg wj wl jT jQ jP jR jO jS jU jW jZ jN jY jV jX j0 j5 wK K (IntKind.wrap .i64 (wU + 1)) (((insR x P).reverse ++ Q).map flE)
 | [], Q, k, hk, hm, h1 => by
  obtain ⟨k, rfl⟩ : ∃ m, k = m + 1 := ⟨k - 1, by simp at hk; omega⟩
  rw [QcE]
  refine stF (decF (by subst h0; simp)) ?_
  rw [QcN]
  rfl
 | y :: P, Q, k, hk, hm, h1 => by
  obtain ⟨k, rfl⟩ : ∃ m, k = m + 1 := ⟨k - 1, by simp at hk; omega⟩
  have hL : (P.reverse.map flE).length = P.length := by simp
  have e0 : ((y :: P).reverse ++ x :: Q).map flE = P.reverse.map flE ++ flE y :: flE x :: Q.map flE := by simp
  have e1 : (P.reverse.map flE ++ flE y :: flE x :: Q.map flE)[0 + (((y :: P).length : Int)).toNat]? = some (flE x) := by
   rw [Qgq, List.getElem?_append_right (by simp)]; simp
  have w1 : IntKind.wrap .i64 (((y :: P).length : Int) - 1) = (P.length : Int) := by
   rw [List.length_cons]; exact QxN (by simp only [List.length_cons] at hm; omega)
  have e2 : (P.reverse.map flE ++ flE y :: flE x :: Q.map flE)[0 + ((P.length : Int)).toNat]? = some (flE y) := by
   rw [Qgq, List.getElem?_append_right (by simp)]; simp
  have b1 : (decide (0 ≤ (((y :: P).length : Nat) : Int)) && decide ((((y :: P).length : Nat) : Int) < ((jK : Nat) : Int))) = true := by
   rw [Bool.and_eq_true, decide_eq_true_eq, decide_eq_true_eq]; simp only [List.length_cons] at hm ⊢; omega
  have b2 : (decide (0 ≤ ((P.length : Nat) : Int)) && decide (((P.length : Nat) : Int) < ((jK : Nat) : Int))) = true := by
   rw [Bool.and_eq_true, decide_eq_true_eq, decide_eq_true_eq]; simp only [List.length_cons] at hm ⊢; omega
  rw [QcE, e0, w1]
  refine stT (decT (by subst h0; simp only [List.length_cons]; omega)) (stC b1 (stO _ e1 (stO _ rfl (stO _ rfl (stO _ rfl (stO _ rfl (stO _ rfl (stO _ rfl (stC b2 (stO _ e2 (stO _ rfl (stO _ rfl (stO _ rfl (stO _ rfl (stO _ rfl (stO _ rfl (stO _ (hc (x, y)) (stO _ (QaB ..) ?_))))))))))))))))))
  by_cases hlt : x.fr < y.fr
  ·have e3 : (setN (P.reverse.map flE ++ flE y :: flE x :: Q.map flE) (0 + (((y :: P).length : Int)).toNat) (flE y))[0 + ((P.length : Int)).toNat]? = some (flE y) := by
    have := QrX (P.reverse.map flE) (Q.map flE) (flE y) (flE x) (flE y)
    rw [hL] at this
    rw [Qgq, Qgq, List.length_cons, this, List.getElem?_append_right (by simp)]
    simp [setN]
   refine stT (decT (by simp [cmpI, hlt])) (stC b2 (stO _ e2 (stO _ rfl (stO _ rfl (stO _ rfl (stO _ rfl (stO _ rfl (stO _ rfl (stC b1 (stO _ e1 (stO _ rfl (stO _ rfl (stO _ rfl (stO _ rfl (stO _ rfl (stO _ rfl (stC b1 (stO _ e1 (stC rfl (stC b2 (stO _ e3 (stC rfl ?_))))))))))))))))))))))
   have e4 : setN (setN (P.reverse.map flE ++ flE y :: flE x :: Q.map flE) (0 + (((y :: P).length : Int)).toNat) (flE y)) (0 + ((P.length : Int)).toNat) (flE x) = (P.reverse ++ x :: y :: Q).map flE := by
    have := set2 (P.reverse.map flE) (Q.map flE) (flE y) (flE x) (flE y) (flE x)
    rw [hL] at this
    rw [Qgq, Qgq, List.length_cons, this]; simp
   have ih := QvM n jK wc wa jC wG wk wi wh wg wj wl jT jQ jP jR jO jS jU jW jZ jN jY jV jX j0 j5 wK K w4 wU h0 hc x P (y :: Q) k (by simp at hk; omega) (by simp at hm ⊢; omega) h1
   have e5 : (insR x (y :: P)).reverse ++ Q = (insR x P).reverse ++ y :: Q := by simp [insR, hlt]
   rw [e5]
   exact (congrArg _ e4).trans ih
  ·refine stF (decF (by unfold cmpI; rw [if_neg hlt]; split <;> omega)) ?_
   rw [QcN]
   have e5 : (insR x (y :: P)).reverse ++ Q = P.reverse ++ y :: x :: Q := by simp [insR, hlt]
   rw [e5]
   simp
theorem QuI (n jK wc : Nat) (wa jC wG : Int) (wk : Bool) (wi : List (List CV)) (wh : Bool) (wg : List (List CV)) (wj : List UInt8) (wl jT jQ jP : Int) (jR : Bool) (jO : List (List CV)) (jS : Int) (jU : List UInt8) (jW jZ jN jY jV : Int) (jX : List UInt8) (j0 : Bool) (j5 wK : List (List CV)) (K : AV → List (List (Option (List AV))) → Option CV) (h0 : jC = 0) (hc : Cmp lb n) (hn : jK < n) (h3 : wa = (jK : Int)) : ∀ (R S : List Fl) (k : Nat), R.length < k → jK = S.length + R.length → jK ≤ 1000 →
  Qbe lb n k jK wc wa jC wG wk wi wh wg wj wl jT jQ jP jR jO jS jU jW jZ jN jY jV jX j0 j5 wK K (S.length : Int) ((S ++ R).map flE) =
   Qbu lb n n K jK wc wa jC wk wi wh wg wj wl jT jQ jP jR jO jS jU jW jZ jN jY jV jX j0 j5 20 jC wG ((QeV S R).map flE)
 | [], S, k, hk, hm, h1 => by
  obtain ⟨k, rfl⟩ : ∃ m, k = m + 1 := ⟨k - 1, by simp at hk; omega⟩
  rw [QcF]
  refine stF (decF (by simp at hm; omega)) ?_
  rw [List.append_nil]; rfl
 | x :: R, S, k, hk, hm, h1 => by
  obtain ⟨k, rfl⟩ : ∃ m, k = m + 1 := ⟨k - 1, by simp at hk; omega⟩
  rw [QcF]
  refine stT (decT (by simp at hm; omega)) ?_
  have ih := QuI n jK wc wa jC wG wk wi wh wg wj wl jT jQ jP jR jO jS jU jW jZ jN jY jV jX j0 j5 wK K h0 hc hn h3 R (insR x S.reverse).reverse k (by simp at hk; omega) (by simp [Qhu] at hm ⊢; omega) h1
  have w1 : IntKind.wrap .i64 ((S.length : Int) + 1) = (((insR x S.reverse).reverse.length : Nat) : Int) := by
   rw [Qaz (by simp at hm; omega) (by simp at hm; omega)]; simp [Qhu]
  have st := QvM lb n jK wc wa jC wG wk wi wh wg wj wl jT jQ jP jR jO jS jU jW jZ jN jY jV jX j0 j5 wK K k (S.length : Int) h0 hc x S.reverse R n (by simp at hm ⊢; omega) (by simp at hm ⊢; omega) h1
  rw [List.reverse_reverse, List.length_reverse, w1] at st
  exact st.trans ih
theorem Qyz (n : Nat) (K : AV → List (List (Option (List AV))) → Option CV) (jK wc : Nat) (wa : Int) (wk : Bool) (wi : List (List CV)) (wh : Bool) (wg : List (List CV)) (wj : List UInt8) (wl jT jQ jP : Int) (jR : Bool) (jO : List (List CV)) (jS : Int) (jU : List UInt8) (jW jZ jN jY jV : Int) (jX : List UInt8) (j0 : Bool) (j5 : List (List CV)) (jC : Int) (h0 : jC = 0) (hc : Cmp lb n) (hn : jK < n) (h3 : wa = (jK : Int)) (R : List Fl) (x : Fl) (hm : jK = R.length + 1) (h1 : jK ≤ 19) :
  Qb1 lb n n K jK wc wa wk wi wh wg wj wl jT jQ jP jR jO jS jU jW jZ jN jY jV jX j0 j5 jC 20 ((x :: R).map flE) =
   Qbu lb n n K jK wc wa jC wk wi wh wg wj wl jT jQ jP jR jO jS jU jW jZ jN jY jV jX j0 j5 20 jC 20 ((QeV [x] R).map flE) := by
 obtain ⟨m, rfl⟩ : ∃ m, n = m + 1 := ⟨n - 1, by omega⟩
 have w : IntKind.wrap .i64 (jC + 1) = (([x].length : Nat) : Int) := by subst h0; rfl
 rw [Qel]
 refine stF (decF (by omega)) ?_
 rw [QeJ, w]
 exact QuI lb (m + 1) _ _ _ _ _ _ _ _ _ _ _ _ _ _ _ _ _ _ _ _ _ _ _ _ _ _ _ _ h0 hc hn h3 R [x] (m + 1) (by omega) (by simp; omega) (by omega)
end Go.Proofs
set_option linter.unusedSimpArgs false
set_option linter.unusedVariables false
namespace Go.Proofs
open Go.Am
variable (lb : Nat)
def Qa3 (f : Fl) (x : P3) : Fl := { f with fr := x.1, to := x.2.1, days := x.2.2 }
def wF (f : Fl) (r : Rv) : List P3 := Qcd f.fr f.to f.days r.fr r.to r.days
def QaW (f : Fl) (r : Rv) : List Fl := (wF f r).map (Qa3 f)
def insF (g : Fl) : List Fl → List Fl
 | [] => [g]
 | y :: t => if g.fr < y.fr then g :: y :: t else y :: insF g t
def idxF (g : Fl) : List Fl → Nat
 | [] => 0
 | y :: t => if g.fr < y.fr then 0 else idxF g t + 1
theorem Qv2 (g : Fl) : ∀ P : List Fl, (insF g P)[idxF g P]? = some g
 | [] => rfl
 | y :: t => by
  unfold insF idxF
  split
  ·rfl
  ·simpa using Qv2 g t
theorem Qk2 (g : Fl) : ∀ P : List Fl, (insF g P).length = P.length + 1
 | [] => rfl
 | y :: t => by
  unfold insF
  split
  ·simp
  ·simp [Qk2 g t]
theorem Qv8 (g : Fl) : ∀ A B : List Fl, (∀ y ∈ A, y.fr ≤ g.fr) → (∀ y ∈ B, g.fr < y.fr) → insF g (A ++ B) = A ++ g :: B
 | [], [], _, _ => rfl
 | [], y :: B, _, hB => by
  show insF g (y :: B) = _
  unfold insF
  rw [if_pos (hB y (by simp))]; rfl
 | y :: A, B, hA, hB => by
  show insF g (y :: (A ++ B)) = _
  have h := hA y (by simp)
  unfold insF
  rw [if_neg (by omega), Qv8 g A B (fun z hz => hA z (by simp [hz])) hB]; rfl
theorem Qq2 (g : Fl) (M : List Fl) : ∀ L : List Fl, (∀ y ∈ L, g.fr < y.fr) → insR g (L ++ M) = L ++ insR g M
 | [], _ => rfl
 | y :: L, h => by
  show (if g.fr < y.fr then y :: insR g (L ++ M) else g :: y :: (L ++ M)) = _
  rw [if_pos (h y (by simp)), Qq2 g M L (fun z hz => h z (by simp [hz]))]; rfl
theorem Qum (g : Fl) : ∀ M : List Fl, (∀ y ∈ M, y.fr ≤ g.fr) → insR g M = g :: M
 | [], _ => rfl
 | y :: M, h => by
  have := h y (by simp)
  unfold insR
  rw [if_neg (by omega)]
theorem QxC (g : Fl) : ∀ P : List Fl, P.Pairwise (fun a b => a.fr ≤ b.fr) → ∃ A B, P = A ++ B ∧ (∀ y ∈ A, y.fr ≤ g.fr) ∧ ∀ y ∈ B, g.fr < y.fr
 | [], _ => ⟨[], [], rfl, by simp, by simp⟩
 | y :: t, h => by
  rw [List.pairwise_cons] at h
  by_cases hy : g.fr < y.fr
  ·refine ⟨[], y :: t, rfl, by simp, fun z hz => ?_⟩
   rcases List.mem_cons.1 hz with rfl | hz
   ·exact hy
   ·have := h.1 z hz; omega
  ·obtain ⟨A, B, e, hA, hB⟩ := QxC g t h.2
   refine ⟨y :: A, B, by rw [e]; rfl, fun z hz => ?_, hB⟩
   rcases List.mem_cons.1 hz with rfl | hz
   ·omega
   ·exact hA z hz
theorem QxZ (g : Fl) (P : List Fl) (h : P.Pairwise (fun a b => a.fr ≤ b.fr)) : (insR g P.reverse).reverse = insF g P := by
 obtain ⟨A, B, rfl, hA, hB⟩ := QxC g P h
 rw [Qv8 g A B hA hB, List.reverse_append, Qq2 g _ B.reverse (fun y hy => hB y (by simpa using hy)), Qum g _ (fun y hy => hA y (by simpa using hy))]
 simp
theorem Qnu : ∀ (R S T : List Fl), (S ++ R).Pairwise (fun a b => a.fr ≤ b.fr) → QeV S (R ++ T) = QeV (S ++ R) T
 | [], S, T, _ => by simp
 | x :: R, S, T, h => by
  have hS : ∀ y ∈ S, y.fr ≤ x.fr := fun y hy => (List.pairwise_append.1 h).2.2 y hy x (by simp)
  show QeV (insR x S.reverse).reverse (R ++ T) = _
  rw [Qum x _ (fun y hy => hS y (by simpa using hy))]
  have e : (x :: S.reverse).reverse = S ++ [x] := by simp
  rw [e, Qnu R (S ++ [x]) T (by simpa using h)]
  simp
def Qtx : List Fl → List Fl
 | [] => []
 | x :: R => QeV [x] R
theorem Qxc (P : List Fl) (h : P.Pairwise (fun a b => a.fr ≤ b.fr)) : Qtx P = P := by
 cases P with
 | nil => rfl
 | cons x R =>
  have := Qnu R [x] [] (by simpa using h)
  rw [List.append_nil] at this
  show QeV [x] R = _
  rw [this]; rfl
theorem Qxq (P : List Fl) (g : Fl) (h : P.Pairwise (fun a b => a.fr ≤ b.fr)) : Qtx (P ++ [g]) = insF g P := by
 cases P with
 | nil => rfl
 | cons x R =>
  have := Qnu R [x] [g] (by simpa using h)
  show QeV [x] (R ++ [g]) = _
  rw [this]
  exact QxZ g (x :: R) h
theorem Qyj {l : List Int} {x : P3} (h : ofF l = some x) : x.1 ∈ l := by
 cases l with
 | nil => cases h
 | cons a r => cases h; simp
theorem Qw9 (f : Fl) (r : Rv) : (QaW f r).Pairwise (fun a b => a.fr ≤ b.fr) := by
 have key : (wF f r).Pairwise (fun a b => a.1 ≤ b.1) := by
  unfold wF Qcd Qe7
  split
  ·rename_i h
   obtain ⟨b0, b1, b2, b3, b4, b5⟩ := Qe8 h
   have m1 : ∀ (lo hi : Int) (x : P3), ofF ((Qat f.fr f.to f.days).filter (QbL lo hi r.fr r.to r.days)) = some x → lo ≤ x.1 ∧ x.1 ≤ hi := fun lo hi x hx => by
    have := (List.mem_filter.1 (Qyj hx)).2
    unfold QbL at this
    simp only [Bool.and_eq_true, decide_eq_true_eq] at this
    omega
   have a1 := m1 0 (r.fr - 1)
   have a2 := m1 r.fr r.to
   have a3 := m1 (r.to + 1) 36525
   simp only [List.filterMap_cons, List.filterMap_nil]
   generalize ofF ((Qat f.fr f.to f.days).filter (QbL 0 (r.fr - 1) r.fr r.to r.days)) = o1 at a1
   generalize ofF ((Qat f.fr f.to f.days).filter (QbL r.fr r.to r.fr r.to r.days)) = o2 at a2
   generalize ofF ((Qat f.fr f.to f.days).filter (QbL (r.to + 1) 36525 r.fr r.to r.days)) = o3 at a3
   cases o1 with
   | none =>
    cases o2 with
    | none => cases o3 <;> simp
    | some y =>
     have c2 := a2 y rfl
     cases o3 with
     | none => simp
     | some z => have c3 := a3 z rfl; simp; omega
   | some x =>
    have c1 := a1 x rfl
    cases o2 with
    | none =>
     cases o3 with
     | none => simp
     | some z => have c3 := a3 z rfl; simp; omega
    | some y =>
     have c2 := a2 y rfl
     cases o3 with
     | none => simp; omega
     | some z => have c3 := a3 z rfl; simp; omega
  ·simp only [List.filterMap_cons, List.filterMap_nil]
   cases ofF (Qat f.fr f.to f.days) <;> simp
 unfold QaW
 rw [List.pairwise_map]
 exact key
theorem QgK (f : Fl) (r : Rv) : (wF f r).length ≤ 3 := by
 unfold wF Qcd
 exact Nat.le_trans (List.length_filterMap_le _ _) (Qsr f.fr f.to f.days r.fr r.to r.days).1
def wcv (l : List P3) : CV := .list l.isEmpty (pl3 l)
theorem QmZ (n k : Nat) (f : Fl) (r : Rv) (ws : List P3) (wn yh x23 : CV) (q : P3) (out : List Fl) (ho : out.length ≤ 1000) (at_ : Int) (p : List P3) (x : P3) (t : List P3) (h : p ++ x :: t = ws) :
  Qdr lb n k f.car f.num f.fr f.to f.days f.ln (f.legs.map lgcv) r.kind r.car r.num r.fr r.to r.days r.min r.eq r.ln (r.legs.map lgcv) (wcv ws) wn (p.length : Int) yh x23 (.int .i64 q.1) (.int .i64 q.2.1) (.int .i64 q.2.2) out.isEmpty (out.map flE) at_ =
   QdU lb n k f.car f.num f.fr f.to f.days f.ln (f.legs.map lgcv) r.kind r.car r.num r.fr r.to r.days r.min r.eq r.ln (r.legs.map lgcv) (wcv ws) wn yh x23 (.int .i64 q.1) (.int .i64 q.2.1) (.int .i64 q.2.2) (out ++ [Qa3 f x]).isEmpty ((out ++ [Qa3 f x]).map flE) at_ (IntKind.wrap .i64 ((p.length : Int) + 1)) := by
 have hg : (pl3 ws)[p.length]? = some (pcv3 x) := by rw [← h]; simp [pl3]
 have hlt : (p.length : Int) < ((pl3 ws).length : Int) := by rw [← h]; simp [pl3]; omega
 rw [Qkh]
 refine stO _ rfl (stT (decT hlt) (stO _ rfl (stO _ (QaG hg) (stC rfl (stO _ rfl (stO _ rfl (stO _ rfl (stC (Qa8 (by simp; omega) (by omega)) ?_))))))))
 rw [Qbr out (Qa3 f x), List.map_append]
 rfl
theorem QqI (n k : Nat) (f : Fl) (r : Rv) (ws : List P3) (hw : ws.length ≤ 1000) (wn yh x23 : CV) (q : P3) (b : Bool) (out : List (List CV)) (at_ : Int) :
  Qdr lb n (k + 1) f.car f.num f.fr f.to f.days f.ln (f.legs.map lgcv) r.kind r.car r.num r.fr r.to r.days r.min r.eq r.ln (r.legs.map lgcv) (wcv ws) wn (ws.length : Int) yh x23 (.int .i64 q.1) (.int .i64 q.2.1) (.int .i64 q.2.2) b out at_ = some (.tup [.list b out, .int .i64 at_]) := by
 rw [Qkh]
 refine stO _ rfl (stF (decF (by simp [pl3])) ?_)
 rw [QdC, Qaz (by omega) (by omega)]
 refine stO _ rfl (stF (decF (by simp [pl3]; omega)) ?_)
 rw [Qqt]
theorem Qkz (n : Nat) (f : Fl) (r : Rv) (ws : List P3) (hw : ws.length ≤ 900) (wn yh x23 : CV) (q : P3) (at_ : Int) (hat : 0 ≤ at_ ∨ r.kind = 2) : ∀ (t p : List P3) (k : Nat) (out : List Fl), p ++ t = ws → out.length ≤ p.length + 1 → t.length + 1 < k →
  QdU lb n k f.car f.num f.fr f.to f.days f.ln (f.legs.map lgcv) r.kind r.car r.num r.fr r.to r.days r.min r.eq r.ln (r.legs.map lgcv) (wcv ws) wn yh x23 (.int .i64 q.1) (.int .i64 q.2.1) (.int .i64 q.2.2) out.isEmpty (out.map flE) at_ (p.length : Int) =
   some (.tup [.list (out ++ t.map (Qa3 f)).isEmpty ((out ++ t.map (Qa3 f)).map flE), .int .i64 at_])
 | [], p, k, out, h, hout, hk => by
  obtain ⟨k, rfl⟩ : ∃ m, k = m + 2 := ⟨k - 2, by simp at hk; omega⟩
  have hp : p = ws := by simpa using h
  subst hp
  have z := QqI lb n k f r p (by omega) wn yh x23 q out.isEmpty (out.map flE) at_
  rw [QdC]
  rw [List.map_nil, List.append_nil]
  refine stO _ rfl (stT (decT (by simp [pl3])) ?_)
  by_cases ha : at_ < 0
  ·have h2 : r.kind = 2 := by omega
   exact stT (decT ha) (stF (bneF h2) z)
  ·exact stF (decF ha) z
 | x :: t, p, k, out, h, hout, hk => by
  obtain ⟨k, rfl⟩ : ∃ m, k = m + 1 := ⟨k - 1, by simp at hk; omega⟩
  have hlen : ws.length = p.length + (t.length + 1) := by rw [← h]; simp
  have hw1 : IntKind.wrap .i64 ((p.length : Int) + 1) = ((p ++ [x]).length : Int) := by rw [Qaz (by omega) (by omega)]; simp
  have z := QmZ lb n k f r ws wn yh x23 q out (by omega) at_ p x t h
  have ih := Qkz n f r ws hw wn yh x23 q at_ hat t (p ++ [x]) k (out ++ [Qa3 f x]) (by rw [← h]; simp) (by simp; omega) (by simp at hk; omega)
  rw [hw1] at z
  have z := z.trans ih
  rw [List.append_assoc] at z
  rw [QdC]
  refine stO _ rfl (stT (decT (by simp [pl3]; omega)) ?_)
  by_cases ha : at_ < 0
  ·have h2 : r.kind = 2 := by omega
   exact stT (decT ha) (stF (bneF h2) z)
  ·exact stF (decF ha) z
theorem Qo0 (n : Nat) (f : Fl) (r : Rv) (ws : List P3) (hw : ws.length ≤ 900) (wn yh x23 : CV) (q : P3) (h2 : r.kind ≠ 2) (hc : C lb n Qaq [flcv f, rvcv r, .agg (pcv3 q)] = some (flcv (Qap r f q))) (hq : (Qap r f q).fr = q.1) : ∀ (t p : List P3) (k : Nat), p ++ t = ws → t.length + 1 < k →
  QdU lb n k f.car f.num f.fr f.to f.days f.ln (f.legs.map lgcv) r.kind r.car r.num r.fr r.to r.days r.min r.eq r.ln (r.legs.map lgcv) (wcv ws) wn yh x23 (.int .i64 q.1) (.int .i64 q.2.1) (.int .i64 q.2.2) (p.map (Qa3 f)).isEmpty ((p.map (Qa3 f)).map flE) (-1) (p.length : Int) =
   some (.tup [.list false ((p.map (Qa3 f) ++ insF (Qap r f q) (t.map (Qa3 f))).map flE), .int .i64 ((p.length + idxF (Qap r f q) (t.map (Qa3 f)) : Nat) : Int)])
 | [], p, k, h, hk => by
  obtain ⟨k, rfl⟩ : ∃ m, k = m + 2 := ⟨k - 2, by simp at hk; omega⟩
  have hp : p = ws := by simpa using h
  subst hp
  have z := QqI lb n k f r p (by omega) wn yh x23 q ((p.map (Qa3 f)).isEmpty && false) ((p.map (Qa3 f)).map flE ++ [flE (Qap r f q)]) (((p.map (Qa3 f)).map flE).length : Int)
  rw [QdC]
  refine stO _ rfl (stT (decT (by simp [pl3])) (stT rfl (stT (bneT h2) (stO _ rfl (stT (beqT (by simp [pl3])) (stO _ hc (stO _ rfl (stC rfl (stO _ rfl (stO _ rfl (stO _ rfl (stO _ rfl (stO _ rfl (stO _ rfl (stC (Qa8 (by simp; omega) (by omega)) (z.trans ?_))))))))))))))))
  simp [insF, idxF]
 | x :: t, p, k, h, hk => by
  obtain ⟨k, rfl⟩ : ∃ m, k = m + 1 := ⟨k - 1, by simp at hk; omega⟩
  have hlen : ws.length = p.length + (t.length + 1) := by rw [← h]; simp
  have hw1 : IntKind.wrap .i64 ((p.length : Int) + 1) = ((p ++ [x]).length : Int) := by rw [Qaz (by omega) (by omega)]; simp
  have hg : (pl3 ws)[p.length]? = some (pcv3 x) := by rw [← h]; simp [pl3]
  rw [QdC]
  refine stO _ rfl (stT (decT (by simp [pl3]; omega)) (stT rfl (stT (bneT h2) (stO _ rfl (stF (beqF (by simp [pl3]; omega)) (stO _ rfl (stO _ (QaG hg) (stC rfl (stO _ rfl (stO _ (QaB ..) (stO _ (QaB ..) ?_)))))))))))
  by_cases hx : x.1 > q.1
  ·have z := QmZ lb n k f r ws wn yh x23 q (p.map (Qa3 f) ++ [Qap r f q]) (by simp; omega) (((p.map (Qa3 f)).map flE).length : Int) p x t h
   have tl := Qkz lb n f r ws hw wn yh x23 q (((p.map (Qa3 f)).map flE).length : Int) (by left; omega) t (p ++ [x]) k ((p.map (Qa3 f) ++ [Qap r f q]) ++ [Qa3 f x]) (by rw [← h]; simp) (by simp) (by simp at hk; omega)
   rw [hw1] at z
   have z := z.trans tl
   rw [← Qbr (p.map (Qa3 f)) (Qap r f q) ((p.map (Qa3 f)).isEmpty), List.map_append (l₁ := p.map (Qa3 f)) (l₂ := [Qap r f q])] at z
   refine stT (decT hx) (stO _ hc (stO _ rfl (stC rfl (stO _ rfl (stO _ rfl (stO _ rfl (stO _ rfl (stO _ rfl (stO _ rfl (stC (Qa8 (by simp; omega) (by omega)) (z.trans ?_)))))))))))
   have hi : insF (Qap r f q) ((x :: t).map (Qa3 f)) = Qap r f q :: (x :: t).map (Qa3 f) := by
    rw [List.map_cons]; unfold insF; rw [if_pos (by rw [hq]; exact hx)]
   have hj : idxF (Qap r f q) ((x :: t).map (Qa3 f)) = 0 := by
    rw [List.map_cons]; unfold idxF; rw [if_pos (by rw [hq]; exact hx)]
   rw [hi, hj]
   simp
  ·have z := QmZ lb n k f r ws wn yh x23 q (p.map (Qa3 f)) (by simp; omega) (-1) p x t h
   have ih := Qo0 n f r ws hw wn yh x23 q h2 hc hq t (p ++ [x]) k (by rw [← h]; simp) (by simp at hk; omega)
   rw [hw1] at z
   have e : (p ++ [x]).map (Qa3 f) = p.map (Qa3 f) ++ [Qa3 f x] := by simp
   rw [e] at ih
   have z := z.trans ih
   have hi : insF (Qap r f q) ((x :: t).map (Qa3 f)) = Qa3 f x :: insF (Qap r f q) (t.map (Qa3 f)) := by
    rw [List.map_cons]; rw [insF]; rw [if_neg (by rw [hq]; exact hx)]
   have hj : idxF (Qap r f q) ((x :: t).map (Qa3 f)) = idxF (Qap r f q) (t.map (Qa3 f)) + 1 := by
    rw [List.map_cons]; rw [idxF]; rw [if_neg (by rw [hq]; exact hx)]
   rw [hi, hj]
   refine stF (decF hx) (z.trans ?_)
   have e3 : (p ++ [x]).length + idxF (Qap r f q) (t.map (Qa3 f)) = p.length + (idxF (Qap r f q) (t.map (Qa3 f)) + 1) := by simp; omega
   rw [e3, List.append_assoc]; rfl
theorem Qwl (r : Rv) (f : Fl) (q : P3) : (Qap r f q).fr = q.1 := by unfold Qap; split <;> rfl
def QbT (f : Fl) (r : Rv) (q : P3) : List Fl × Int :=
 if r.kind = 2 then (QaW f r, -1) else (insF (Qap r f q) (QaW f r), (idxF (Qap r f q) (QaW f r) : Nat))
theorem Qta (f : Fl) (r : Rv) (q : P3) (hl : f.legs.length ≤ 1000) (hq : QiY f r = some q) : Ret lb QaY [flcv f, rvcv r] (.tup [.list (QbT f r q).1.isEmpty ((QbT f r q).1.map flE), .int .i64 (QbT f r q).2]) := by
 have hq' : Qd4 f.fr f.to f.days r.fr r.to r.days = some q := hq
 have w := QgK f r
 refine .top rfl (Evt.imp2 ((Qqm lb f.fr f.to f.days r.fr r.to r.days).and (QjH lb f.fr f.to f.days r.fr r.to r.days)) ((Qqz lb f r q hl).and (Evt.ge 10)) fun n ⟨h1, h2⟩ ⟨h3, hn⟩ => ?_)
 rw [hq'] at h2
 rw [Quy]
 refine stO _ h1 (stO _ h2 (stO _ rfl (stO _ rfl (stO _ rfl (stO _ rfl (stO _ rfl (stC rfl (stO _ rfl (stO _ rfl (stO _ rfl ?_))))))))))
 unfold QbT
 by_cases hk : r.kind = 2
 ·rw [if_pos hk]
  exact Qkz lb n f r (wF f r) (by omega) (.bool true) (optP (some q)) (.agg (pcv3 q)) q (-1) (.inr hk) (wF f r) [] n [] rfl (by simp) (by omega)
 ·rw [if_neg hk]
  have z := Qo0 lb n f r (wF f r) (by omega) (.bool true) (optP (some q)) (.agg (pcv3 q)) q hk h3 (Qwl r f q) (wF f r) [] n rfl (by omega)
  refine z.trans ?_
  have hne : (insF (Qap r f q) (QaW f r)).isEmpty = false := by
   cases h : insF (Qap r f q) (QaW f r) with
   | nil => have := Qk2 (Qap r f q) (QaW f r); rw [h] at this; simp at this
   | cons => rfl
  show _ = some (CV.tup [.list (insF (Qap r f q) (QaW f r)).isEmpty ((insF (Qap r f q) (QaW f r)).map flE), .int .i64 ((idxF (Qap r f q) (QaW f r) : Nat) : Int)])
  rw [hne]
  unfold QaW
  simp
end Go.Proofs
set_option linter.unusedSimpArgs false
set_option linter.unusedVariables false
set_option maxRecDepth 100000
namespace Go.Proofs
open Go.Am
variable (lb : Nat)
theorem Qyf (lb n : Nat) : QqD Tryz.prog KK (L lb) (n + 30) Qao [.list true [], .fn Qae] = some (.tup []) := by kernel_rfl
theorem QtF : Ret lb Qao [.list true [], .fn Qae] (.tup []) := Evt.from 30 fun n => by
 show Qdj Tryz.prog KK (L lb) (n + 30) Qao _ = _
 rw [Qun]
 exact Qyf lb n
def Qci (p : Pc) (f : Fl) (r : Rv) (q : P3) : List Fl × Int :=
 if r.kind = 2 then (QaW f r, 0) else match QaT p (Qap r f q) with
  | e :: _ => ([], e.1)
  | [] => (insF (Qap r f q) (QaW f r), 0)
def Qee (x : List Fl × Int) : CV := .tup [.list x.1.isEmpty (x.1.map flE), .int .i64 x.2]
theorem Qyw (n : Nat) (p : Pc) (f : Fl) (r : Rv) (hc : Cmp lb n) (P : List Fl) (g : Fl) (hP : P.length ≤ 10) (hn : P.length + 1 < n) (hP0 : P ≠ []) (ga : CV) :
  Qbp lb n (Qex lb n P.length p.an (p.aps.map apcv) p.dn (p.dis.map dicv) f.car f.num f.fr f.to f.days f.ln (f.legs.map lgcv) r.kind r.car r.num r.fr r.to r.days r.min r.eq r.ln (r.legs.map lgcv) (P.map flE) (.str g.car) (.int .i64 g.num) (.int .i64 g.fr) (.int .i64 g.to) (.int .i64 g.days) (.list g.ln (g.legs.map lgcv)) ga) (P.length + 1) (P.length + 1) ((P.length + 1 : Nat) : Int) p.an (p.aps.map apcv) p.dn (p.dis.map dicv) f.car f.num f.fr f.to f.days f.ln (f.legs.map lgcv) r.kind r.car r.num r.fr r.to r.days r.min r.eq r.ln (r.legs.map lgcv) (P.map flE ++ [[.str g.car, .int .i64 g.num, .int .i64 g.fr, .int .i64 g.to, .int .i64 g.days, .list g.ln (g.legs.map lgcv)]]) (.str g.car) (.int .i64 g.num) (.int .i64 g.fr) (.int .i64 g.to) (.int .i64 g.days) (.list g.ln (g.legs.map lgcv)) =
   some (.tup [.list false ((Qtx (P ++ [g])).map flE), .int .i64 0]) := by
 obtain ⟨x, R, rfl⟩ : ∃ x R, P = x :: R := by cases P with | nil => exact absurd rfl hP0 | cons x R => exact ⟨x, R, rfl⟩
 obtain ⟨m, rfl⟩ : ∃ m, n = m + 1 := ⟨n - 1, by omega⟩
 rw [Qdd]
 have st := QvX lb (m + 1) (K := Qex lb (m + 1) (x :: R).length p.an (p.aps.map apcv) p.dn (p.dis.map dicv) f.car f.num f.fr f.to f.days f.ln (f.legs.map lgcv) r.kind r.car r.num r.fr r.to r.days r.min r.eq r.ln (r.legs.map lgcv) ((x :: R).map flE) (.str g.car) (.int .i64 g.num) (.int .i64 g.fr) (.int .i64 g.to) (.int .i64 g.days) (.list g.ln (g.legs.map lgcv)) ga)
  ((x :: R).length + 1) ((x :: R).length + 1) (((x :: R).length + 1 : Nat) : Int) p.an (p.aps.map apcv) p.dn (p.dis.map dicv) f.car f.num f.fr f.to f.days f.ln (f.legs.map lgcv) r.kind r.car r.num r.fr r.to r.days r.min r.eq r.ln (r.legs.map lgcv) (.str g.car) (.int .i64 g.num) (.int .i64 g.fr) (.int .i64 g.to) (.int .i64 g.days) (.list g.ln (g.legs.map lgcv)) 0 rfl hc (by omega) rfl (R ++ [g]) x (by simp) (by simp at hP ⊢; omega)
 have e : (x :: R).map flE ++ [[CV.str g.car, .int .i64 g.num, .int .i64 g.fr, .int .i64 g.to, .int .i64 g.days, .list g.ln (g.legs.map lgcv)]] = (x :: (R ++ [g])).map flE := by simp [flE]
 rw [e, st, QcM]
 refine stF (decF (by simp at hP ⊢; omega)) ?_
 rw [QlY]
 have hl : (QeV [x] (R ++ [g])).length = (x :: R).length + 1 := by rw [QmS]; simp; omega
 refine stC (decT (by rw [List.length_map, hl]; omega)) ?_
 rw [List.drop_zero, List.take_of_length_le (by rw [List.length_map, hl]; exact Nat.le_refl _)]
 rfl
 all_goals exact false
theorem Qx8 (n : Nat) (p : Pc) (f : Fl) (r : Rv) (hc : Cmp lb n) (P : List Fl) (hP : P.length ≤ 10) (hn : P.length + 1 < n) (hP0 : P ≠ []) :
  Qcf lb n (Qer lb n P.length P.length p.an (p.aps.map apcv) p.dn (p.dis.map dicv) f.car f.num f.fr f.to f.days f.ln (f.legs.map lgcv) r.kind r.car r.num r.fr r.to r.days r.min r.eq r.ln (r.legs.map lgcv) (P.map flE)) P.length P.length ((P.length : Nat) : Int) p.an (p.aps.map apcv) p.dn (p.dis.map dicv) f.car f.num f.fr f.to f.days f.ln (f.legs.map lgcv) r.kind r.car r.num r.fr r.to r.days r.min r.eq r.ln (r.legs.map lgcv) (P.map flE) =
   some (.tup [.list false ((Qtx P).map flE), .int .i64 0]) := by
 obtain ⟨x, R, rfl⟩ : ∃ x R, P = x :: R := by cases P with | nil => exact absurd rfl hP0 | cons x R => exact ⟨x, R, rfl⟩
 obtain ⟨m, rfl⟩ : ∃ m, n = m + 1 := ⟨n - 1, by omega⟩
 rw [Qe4]
 have st := Qyz lb (m + 1) (K := Qer lb (m + 1) (x :: R).length (x :: R).length p.an (p.aps.map apcv) p.dn (p.dis.map dicv) f.car f.num f.fr f.to f.days f.ln (f.legs.map lgcv) r.kind r.car r.num r.fr r.to r.days r.min r.eq r.ln (r.legs.map lgcv) ((x :: R).map flE))
  (x :: R).length (x :: R).length (((x :: R).length : Nat) : Int) p.an (p.aps.map apcv) p.dn (p.dis.map dicv) f.car f.num f.fr f.to f.days f.ln (f.legs.map lgcv) r.kind r.car r.num r.fr r.to r.days r.min r.eq r.ln (r.legs.map lgcv) 0 rfl hc (by omega) rfl R x (by simp) (by simp at hP ⊢; omega)
 rw [st, Qek]
 refine stF (decF (by simp at hP ⊢; omega)) ?_
 rw [QlX]
 have hl : (QeV [x] R).length = (x :: R).length := by rw [QmS]; simp; omega
 refine stC (decT (by rw [List.length_map, hl]; omega)) ?_
 rw [List.drop_zero, List.take_of_length_le (by rw [List.length_map, hl]; omega)]
 rfl
 all_goals exact false
theorem Qyg (n : Nat) (p : Pc) (f : Fl) (r : Rv) (hc : Cmp lb n) (g : Fl) (hn : 2 < n) (o9 : CV) :
  Qbp lb n (Qen lb n p.an (p.aps.map apcv) p.dn (p.dis.map dicv) f.car f.num f.fr f.to f.days f.ln (f.legs.map lgcv) r.kind r.car r.num r.fr r.to r.days r.min r.eq r.ln (r.legs.map lgcv) (.str g.car) (.int .i64 g.num) (.int .i64 g.fr) (.int .i64 g.to) (.int .i64 g.days) (.list g.ln (g.legs.map lgcv)) o9) 1 1 1 p.an (p.aps.map apcv) p.dn (p.dis.map dicv) f.car f.num f.fr f.to f.days f.ln (f.legs.map lgcv) r.kind r.car r.num r.fr r.to r.days r.min r.eq r.ln (r.legs.map lgcv) [[.str g.car, .int .i64 g.num, .int .i64 g.fr, .int .i64 g.to, .int .i64 g.days, .list g.ln (g.legs.map lgcv)]] (.str g.car) (.int .i64 g.num) (.int .i64 g.fr) (.int .i64 g.to) (.int .i64 g.days) (.list g.ln (g.legs.map lgcv)) =
   some (.tup [.list false ([g].map flE), .int .i64 0]) := by
 obtain ⟨m, rfl⟩ : ∃ m, n = m + 1 := ⟨n - 1, by omega⟩
 rw [Qdd]
 have st := QvX lb (m + 1) (K := Qen lb (m + 1) p.an (p.aps.map apcv) p.dn (p.dis.map dicv) f.car f.num f.fr f.to f.days f.ln (f.legs.map lgcv) r.kind r.car r.num r.fr r.to r.days r.min r.eq r.ln (r.legs.map lgcv) (.str g.car) (.int .i64 g.num) (.int .i64 g.fr) (.int .i64 g.to) (.int .i64 g.days) (.list g.ln (g.legs.map lgcv)) o9)
  1 1 1 p.an (p.aps.map apcv) p.dn (p.dis.map dicv) f.car f.num f.fr f.to f.days f.ln (f.legs.map lgcv) r.kind r.car r.num r.fr r.to r.days r.min r.eq r.ln (r.legs.map lgcv) (.str g.car) (.int .i64 g.num) (.int .i64 g.fr) (.int .i64 g.to) (.int .i64 g.days) (.list g.ln (g.legs.map lgcv)) 0 rfl hc (by omega) rfl [] g (by simp) (by omega)
 have e : [[CV.str g.car, .int .i64 g.num, .int .i64 g.fr, .int .i64 g.to, .int .i64 g.days, .list g.ln (g.legs.map lgcv)]] = (g :: []).map flE := by simp [flE]
 rw [e, st, QcM]
 refine stF (decF (by omega)) ?_
 rw [QlZ]
 exact stC rfl rfl
 all_goals exact false
theorem Qyy (n : Nat) (p : Pc) (f : Fl) (r : Rv) (q : P3) (hc : Cmp lb n) (hn : 2 < n) (hw : QaW f r = [])
  (h1 : r.kind ≠ 2 → C lb n Qau [flcv f, rvcv r] = some (flcv (Qap r f q)))
  (h2 : C lb n Qai [pcv p, flcv (Qap r f q)] = some (Qb9 (QaT p (Qap r f q))))
  (h3 : C lb n Qao [.list true [], .fn Qae] = some (.tup [])) :
  Qf4 lb n p.an (p.aps.map apcv) p.dn (p.dis.map dicv) f.car f.num f.fr f.to f.days f.ln (f.legs.map lgcv) r.kind r.car r.num r.fr r.to r.days r.min r.eq r.ln (r.legs.map lgcv) = some (Qee (Qci p f r q)) := by
 rw [Qls]
 unfold Qci
 by_cases hk : r.kind = 2
 ·rw [if_pos hk, hw]
  exact stF (bneF hk) (stO _ h3 rfl)
 ·rw [if_neg hk, hw]
  have h1 := h1 hk
  generalize Qap r f q = g at h1 h2
  refine stT (bneT hk) (stO _ h1 (stO _ rfl (stC rfl (stO _ rfl (stO _ rfl (stO _ rfl (stO _ rfl (stO _ rfl (stO _ rfl (stO _ h2 (stO _ rfl ?_)))))))))))
  cases hch : QaT p g with
  | nil => exact stF (decF (by simp)) (Qyg lb n p f r hc g hn _)
  | cons e t => exact stT (decT (by simp)) (stO _ rfl (stO _ rfl (stC rfl (stO _ rfl rfl))))
theorem QyH (n : Nat) (p : Pc) (f : Fl) (r : Rv) (q : P3) (hc : Cmp lb n) (hn : 10 < n) (hw : QaW f r ≠ [])
  (h1 : r.kind ≠ 2 → C lb n Qau [flcv f, rvcv r] = some (flcv (Qap r f q)))
  (h2 : C lb n Qai [pcv p, flcv (Qap r f q)] = some (Qb9 (QaT p (Qap r f q)))) :
  Qev lb n p.an (p.aps.map apcv) p.dn (p.dis.map dicv) f.car f.num f.fr f.to f.days f.ln (f.legs.map lgcv) r.kind r.car r.num r.fr r.to r.days r.min r.eq r.ln (r.legs.map lgcv) (QaW f r).length (QaW f r).length ((QaW f r).map flE) = some (Qee (Qci p f r q)) := by
 have hlen : (QaW f r).length ≤ 3 := by unfold QaW; rw [List.length_map]; exact QgK f r
 have asc := Qw9 f r
 rw [QlB]
 unfold Qci
 generalize QaW f r = P at hw hlen asc
 by_cases hk : r.kind = 2
 ·rw [if_pos hk]
  have z := Qx8 lb n p f r hc P (by omega) (by omega) hw
  rw [Qxc P asc] at z
  refine stF (bneF hk) (z.trans ?_)
  have : P.isEmpty = false := by simpa using hw
  unfold Qee; rw [this]
 ·rw [if_neg hk]
  have h1 := h1 hk
  generalize Qap r f q = g at h1 h2
  refine stT (bneT hk) (stO _ h1 (stO _ rfl (stC rfl (stO _ rfl (stO _ rfl (stO _ rfl (stO _ rfl (stO _ rfl (stO _ rfl (stO _ h2 (stO _ rfl ?_)))))))))))
  cases hch : QaT p g with
  | nil =>
   have z := Qyw lb n p f r hc P g (by omega) (by omega) hw (Qb9 [])
   rw [Qxq P g asc] at z
   refine stF (decF (by simp)) (stC (decT (by simp)) (stC (Qa8 (by omega) (by omega)) (z.trans ?_)))
   have : (insF g P).isEmpty = false := by
    cases h : insF g P with
    | nil => have := Qk2 g P; rw [h] at this; simp at this
    | cons => rfl
   unfold Qee; rw [this]
  | cons e t => exact stT (decT (by simp)) (stO _ rfl (stO _ rfl (stC rfl (stO _ rfl rfl))))
theorem Que (n : Nat) (p : Pc) (f : Fl) (r : Rv) (q : P3) (hw : QaW f r ≠ [])
  (hJ : Qev lb n p.an (p.aps.map apcv) p.dn (p.dis.map dicv) f.car f.num f.fr f.to f.days f.ln (f.legs.map lgcv) r.kind r.car r.num r.fr r.to r.days r.min r.eq r.ln (r.legs.map lgcv) (QaW f r).length (QaW f r).length ((QaW f r).map flE) = some (Qee (Qci p f r q))) : ∀ (t u : List P3) (k : Nat), u ++ t = wF f r → u ≠ [] → t.length < k →
  Qet lb n k p.an (p.aps.map apcv) p.dn (p.dis.map dicv) f.car f.num f.fr f.to f.days f.ln (f.legs.map lgcv) r.kind r.car r.num r.fr r.to r.days r.min r.eq r.ln (r.legs.map lgcv) (wcv (wF f r)) ((wF f r).isEmpty, pl3 (wF f r)) u.length u.length (u.length : Int) ((u.map (Qa3 f)).map flE) = some (Qee (Qci p f r q))
 | [], u, k, h, hu, hk => by
  obtain ⟨k, rfl⟩ : ∃ m, k = m + 1 := ⟨k - 1, by simp at hk; omega⟩
  have hp : u = wF f r := by simpa using h
  rw [Qga]
  refine stF (decF (by rw [← hp]; simp [pl3])) ?_
  have e : u.length = (QaW f r).length := by rw [hp]; simp [QaW]
  rw [e, hp]
  exact hJ
 | x :: t, u, k, h, hu, hk => by
  obtain ⟨k, rfl⟩ : ∃ m, k = m + 1 := ⟨k - 1, by simp at hk; omega⟩
  have h3 := QgK f r
  have hlen : (wF f r).length = u.length + (t.length + 1) := by rw [← h]; simp
  have hw1 : IntKind.wrap .i64 ((u.length : Int) + 1) = ((u ++ [x]).length : Int) := by rw [Qaz (by omega) (by omega)]; simp
  have hg : (pl3 (wF f r))[u.length]? = some (pcv3 x) := by rw [← h]; simp [pl3]
  have ih := Que n p f r q hw hJ t (u ++ [x]) k (by rw [← h]; simp) (by simp) (by simp at hk; omega)
  rw [Qga]
  refine stT (decT (by simp [pl3]; omega)) (stO _ rfl (stO _ (QaG hg) (stC rfl (stO _ rfl (stO _ rfl (stO _ rfl (stC (decT (by simp)) (stC (Qa8 (by omega) (by omega)) ?_))))))))
  rw [hw1]
  have e1 : (u ++ [x]).length = u.length + 1 := by simp
  have e2 : ((u ++ [x]).map (Qa3 f)).map flE = (u.map (Qa3 f)).map flE ++ [flE (Qa3 f x)] := by simp
  rw [e2] at ih
  rw [e1] at ih ⊢
  exact ih
theorem Qm5 (p : Pc) (hp : Qbw p) (f : Fl) (r : Rv) (q : P3) (hl : f.legs.length ≤ 1000) (hk : r.kind = 2 ∨ r.kind = 3 ∨ r.kind = 4 ∨ r.kind = 5) (hln : f.ln = false) (hne : f.legs ≠ []) (hq : QiY f r = some q)
  (hg1 : (Qap r f q).car.length ≤ 281474976710656) (hg2 : ∀ x ∈ (Qap r f q).legs, x.eq.length ≤ 281474976710656) :
  Ret lb Qan [pcv p, flcv f, rvcv r] (Qee (Qci p f r q)) := by
 have a1 : Evt fun n => r.kind ≠ 2 → C lb n Qau [flcv f, rvcv r] = some (flcv (Qap r f q)) := by
  by_cases h2 : r.kind = 2
  ·exact .all fun n h => absurd h2 h
  ·exact (QlV lb f r q hl (by omega) hln hne hq).mono fun n h _ => h
 have h3 := QgK f r
 refine .top rfl (Evt.imp2 ((Qns lb f.fr f.to f.days r.fr r.to r.days).and (Evt.and a1 (Evt.and (Qy7 lb) (Evt.ge 20)))) ((Qjb lb p hp (Qap r f q) hg1 hg2).and (QtF lb)) fun n ⟨b1, b2, b3, b4⟩ ⟨b5, b6⟩ => ?_)
 rw [Qon]
 refine stO _ b1 (stO _ rfl ?_)
 obtain ⟨m, rfl⟩ : ∃ m, n = m + 1 := ⟨n - 1, by omega⟩
 rw [Qku]
 cases hw : wF f r with
 | nil =>
  have hw' : Qcd f.fr f.to f.days r.fr r.to r.days = [] := hw
  rw [hw']
  exact stF (decF (by simp [pl3])) (Qyy lb (m + 1) p f r q b3 (by omega) (by unfold QaW; rw [hw]; rfl) b2 b5 b6)
 | cons x t =>
  have hJ := QyH lb (m + 1) p f r q b3 (by omega) (by unfold QaW; rw [hw]; simp) b2 b5
  have L := Que lb (m + 1) p f r q (by unfold QaW; rw [hw]; simp) hJ t [x] m (by rw [hw]; rfl) (by simp) (by rw [hw] at h3; simp at h3; omega)
  have hw' : Qcd f.fr f.to f.days r.fr r.to r.days = x :: t := hw
  rw [hw] at L
  rw [hw']
  exact stT (decT (by simp [pl3])) (stO _ rfl (stO _ rfl (stC rfl (stO _ rfl (stO _ rfl (stO _ rfl L))))))
end Go.Proofs
set_option linter.unusedSimpArgs false
set_option linter.unusedVariables false
namespace Go.Proofs
open Go.Am
variable (lb : Nat)
structure OkF (f : Fl) : Prop where
 ln : f.ln = false
 ne : f.legs ≠ []
 len : f.legs.length ≤ 100
 car : f.car.length ≤ 281474976710656
 eq : ∀ x ∈ f.legs, x.eq.length ≤ 281474976710656
structure OkR (r : Rv) : Prop where
 car : r.car.length ≤ 281474976710656
 eq1 : r.eq.length ≤ 281474976710656
 eq : ∀ x ∈ r.legs, x.eq.length ≤ 281474976710656
def QcW (r : Rv) : Fl := ⟨r.car, r.num, r.fr, r.to, r.days, r.ln, r.legs⟩
def qOf (f : Fl) (r : Rv) : P3 := (QiY f r).getD (0, 0, 0)
theorem QtI {f : Fl} {r : Rv} (h : QbM f r = true) : QiY f r = some (qOf f r) := by
 unfold QbM at h
 simp only [Bool.and_eq_true] at h
 unfold qOf
 cases hm : QiY f r with
 | none => rw [hm] at h; simp at h
 | some x => rfl
theorem QlH {f : Fl} {r : Rv} (hf : OkF f) (hr : OkR r) (q : P3) : (Qap r f q).car.length ≤ 281474976710656 ∧ ∀ x ∈ (Qap r f q).legs, x.eq.length ≤ 281474976710656 := by
 unfold Qap
 split
 ·exact ⟨hf.car, hr.eq⟩
 ·refine ⟨hf.car, fun x hx => ?_⟩
  obtain ⟨y, hy, rfl⟩ := List.mem_map.1 hx
  unfold QbP
  split
  ·exact hf.eq y hy
  ·split
   ·exact hr.eq1
   ·exact hf.eq y hy
def anyE (r : Rv) (b : Bool) : Int := if b then (if r.kind = 1 then 6 else 0) else if r.kind = 1 then 0 else 7
def QeQ (l : List Fl) (r : Rv) : Int := if r.kind < 1 ∨ r.kind > 5 then 8 else if perE r.fr r.to r.days ≠ 0 then perE r.fr r.to r.days else anyE r (l.any (QbM · r))
theorem Qdb {l u t : List Fl} {f : Fl} (h : u ++ f :: t = l) : (l.map flE)[u.length]? = some (flE f) := by rw [← h]; simp
theorem QpR (r : Rv) (bn : Bool) (l : List Fl) (hl : l.length ≤ 100000) (ks : CV) : ∀ (t u : List Fl), u ++ t = l → Evt fun n => ∀ k, t.length < k →
  revision_allowed_L1 lb n k bn (l.map flE) r.kind r.car r.num r.fr r.to r.days r.min r.eq r.ln (r.legs.map lgcv) ks (u.length : Int) = some (.int .i64 (anyE r (t.any (QbM · r))))
 | [], u, h => by
  refine .all fun n k hk => ?_
  obtain ⟨k, rfl⟩ : ∃ m, k = m + 1 := ⟨k - 1, by simp at hk; omega⟩
  have hp : u = l := by simpa using h
  rw [QfG, ← hp]
  refine stF (decF (by simp)) ?_
  rw [Qkp]
  unfold anyE
  by_cases h1 : r.kind = 1
  ·refine stT (beqT h1) (stF (bneF h1) ?_); simp [h1]
  ·refine stF (beqF h1) (stT (bneT h1) ?_); simp [h1]
 | f :: t, u, h => by
  have hlen : l.length = u.length + (t.length + 1) := by rw [← h]; simp
  have hw1 : IntKind.wrap .i64 ((u.length : Int) + 1) = ((u ++ [f]).length : Int) := by rw [Qaz (by omega) (by omega)]; simp
  refine Evt.imp2 (QdG lb f r) (QpR r bn l hl ks t (u ++ [f]) (by rw [← h]; simp)) fun n hw hi k hk => ?_
  obtain ⟨k, rfl⟩ : ∃ m, k = m + 1 := ⟨k - 1, by simp at hk; omega⟩
  have hi := hi k (by simp at hk; omega)
  rw [QfG]
  refine stT (decT (by simp; omega)) (stO _ (QaG (Qdb h)) (stC rfl (stO _ rfl (stO _ rfl (stO _ rfl (stO _ rfl (stO _ rfl (stO _ rfl (stO _ hw (stO _ (QaL _) ?_))))))))))
  cases ht : QbM f r with
  | false =>
   refine stF rfl ?_
   rw [hw1, hi]
   simp [ht]
  | true =>
   refine stT rfl ?_
   unfold anyE
   simp only [List.any_cons, ht, Bool.true_or, if_true]
   by_cases h1 : r.kind = 1
   ·rw [if_pos h1]
    exact stT (beqT h1) (stT (decT (by omega)) rfl)
   ·rw [if_neg h1]
    exact stF (beqF h1) (stT (bneT h1) (stF (by rw [decT (by omega)]; rfl) rfl))
theorem Qhd (r : Rv) (bn : Bool) (l : List Fl) (hl : l.length ≤ 100000) : Ret lb QaU [.list bn (l.map flE), rvcv r] (.int .i64 (QeQ l r)) := by
 refine .top rfl (Evt.imp2 (QbY lb r.fr r.to r.days) (Evt.diag (QpR lb r bn l hl (.int .i64 (perE r.fr r.to r.days)) l [] rfl)) fun n h1 h2 => ?_)
 rw [Qmz]
 unfold QeQ
 by_cases a1 : r.kind < 1
 ·rw [if_pos (.inl a1)]; exact stT (decT a1) rfl
 ·by_cases a2 : r.kind > 5
  ·rw [if_pos (.inr a2)]; exact stF (decF a1) (stT (decT a2) rfl)
  ·rw [if_neg (by omega)]
   refine stF (decF a1) (stF (decF a2) (stO _ h1 (stO _ (QaB ..) ?_)))
   by_cases a3 : perE r.fr r.to r.days = 0
   ·rw [if_neg (by simpa using a3)]
    exact stF (bneF a3) h2
   ·rw [if_pos a3]
    exact stT (bneT a3) rfl
def finP (p : Pc) (r : Rv) (acc : List Fl) : List Fl × Int :=
 if r.kind = 1 then (match QaT p (QcW r) with
  | e :: _ => ([], e.1)
  | [] => (acc ++ [QcW r], 0)) else (acc, 0)
def Qd5 (p : Pc) (r : Rv) : List Fl → List Fl → List Fl × Int
 | acc, [] => finP p r acc
 | acc, f :: t =>
  if r.kind = 1 then Qd5 p r (acc ++ [f]) t else
  if QbM f r = false then Qd5 p r (acc ++ [f]) t else
  if (Qci p f r (qOf f r)).2 = 0 then Qd5 p r (acc ++ (Qci p f r (qOf f r)).1) t else ([], (Qci p f r (qOf f r)).2)
def Qqe (p : Pc) (l : List Fl) (r : Rv) : List Fl × Int := if QeQ l r = 0 then Qd5 p r [] l else ([], QeQ l r)
theorem Qwp (p : Pc) (f : Fl) (r : Rv) (q : P3) : (Qci p f r q).1.length ≤ 4 := by
 have h : (QaW f r).length ≤ 3 := by unfold QaW; rw [List.length_map]; exact QgK f r
 unfold Qci
 split
 ·show (QaW f r).length ≤ 4; omega
 ·split
  ·simp
  ·show (insF (Qap r f q) (QaW f r)).length ≤ 4; rw [Qk2]; omega
theorem QrP (a b : List Fl) : (a.isEmpty && (b.map flE).isEmpty) = (a ++ b).isEmpty := by cases a <;> cases b <;> rfl
theorem QtY (p : Pc) (hp : Qbw p) (r : Rv) (hr : OkR r) (hk : 1 ≤ r.kind ∧ r.kind ≤ 5) (bn : Bool) (l : List Fl) (hl : ∀ f ∈ l, OkF f) (hll : l.length ≤ 100000) (ki : CV) : ∀ (t u acc : List Fl), u ++ t = l → acc.length ≤ 4 * u.length → Evt fun n => ∀ k, t.length < k →
  Qc1 lb n k p.an (p.aps.map apcv) p.dn (p.dis.map dicv) bn (l.map flE) r.kind r.car r.num r.fr r.to r.days r.min r.eq r.ln (r.legs.map lgcv) ki acc.isEmpty (acc.map flE) (u.length : Int) = some (Qee (Qd5 p r acc t))
 | [], u, acc, h, ha => by
  have hu : u = l := by simpa using h
  refine (Qjb lb p hp (QcW r) (by have := hr.car; show r.car.length ≤ _; omega) (fun x hx => by have := hr.eq x hx; omega)).mono fun n hc k hk => ?_
  obtain ⟨k, rfl⟩ : ∃ m, k = m + 1 := ⟨k - 1, by simp at hk; omega⟩
  rw [QcA, ← hu]
  refine stF (decF (by simp)) ?_
  rw [Qlv]
  show _ = some (Qee (finP p r acc))
  unfold finP
  by_cases h1 : r.kind = 1
  ·rw [if_pos h1]
   refine stT (beqT h1) (stO _ hc (stO _ rfl ?_))
   cases hch : QaT p (QcW r) with
   | nil =>
    refine stF (decF (by simp)) (stC (Qa8 (by simp; rw [hu] at ha; omega) (by omega)) ?_)
    rw [Qbr acc (QcW r)]
    unfold Qee
    rw [List.map_append]; rfl
   | cons e t => exact stT (decT (by simp)) (stO _ rfl (stO _ rfl (stC rfl (stO _ rfl rfl))))
  ·rw [if_neg h1]
   exact stF (beqF h1) rfl
 | f :: t, u, acc, h, ha => by
  have hlen : l.length = u.length + (t.length + 1) := by rw [← h]; simp
  have hw1 : IntKind.wrap .i64 ((u.length : Int) + 1) = ((u ++ [f]).length : Int) := by rw [Qaz (by omega) (by omega)]; simp
  have hf := hl f (by rw [← h]; simp)
  have hun : Qd5 p r acc (f :: t) = if r.kind = 1 then Qd5 p r (acc ++ [f]) t else
   if QbM f r = false then Qd5 p r (acc ++ [f]) t else
   if (Qci p f r (qOf f r)).2 = 0 then Qd5 p r (acc ++ (Qci p f r (qOf f r)).1) t else ([], (Qci p f r (qOf f r)).2) := rfl
  have ih1 := QtY p hp r hr hk bn l hl hll ki t (u ++ [f]) (acc ++ [f]) (by rw [← h]; simp) (by simp; omega)
  by_cases h1 : r.kind = 1
  ·rw [hun, if_pos h1]
   refine ih1.mono fun n hi k hk => ?_
   obtain ⟨k, rfl⟩ : ∃ m, k = m + 1 := ⟨k - 1, by simp at hk; omega⟩
   have hi := hi k (by simp at hk; omega)
   rw [List.map_append, ← Qbr acc f acc.isEmpty] at hi
   rw [QcA, hw1]
   exact stT (decT (by simp; omega)) (stO _ (QaG (Qdb h)) (stC rfl (stO _ rfl (stO _ rfl (stO _ rfl (stO _ rfl (stO _ rfl (stO _ rfl (stT (beqT h1) (stC (Qa8 (by simp; omega) (by omega)) hi))))))))))
  ·rw [hun, if_neg h1]
   cases ht : QbM f r with
   | false =>
    rw [if_pos rfl]
    refine Evt.imp2 (QdG lb f r) ih1 fun n hw hi k hk => ?_
    rw [ht] at hw
    obtain ⟨k, rfl⟩ : ∃ m, k = m + 1 := ⟨k - 1, by simp at hk; omega⟩
    have hi := hi k (by simp at hk; omega)
    rw [List.map_append, ← Qbr acc f acc.isEmpty] at hi
    rw [QcA, hw1]
    exact stT (decT (by simp; omega)) (stO _ (QaG (Qdb h)) (stC rfl (stO _ rfl (stO _ rfl (stO _ rfl (stO _ rfl (stO _ rfl (stO _ rfl (stF (beqF h1) (stO _ hw (stO _ (QaL _) (stT rfl (stC (Qa8 (by simp; omega) (by omega)) hi)))))))))))))
   | true =>
    rw [if_neg (by simp)]
    obtain ⟨c1, c2⟩ := QlH hf hr (qOf f r)
    have sp := Qm5 lb p hp f r (qOf f r) (by have := hf.len; omega) (by omega) hf.ln hf.ne (QtI ht) (by omega) (fun x hx => by have := c2 x hx; omega)
    have sl := Qwp p f r (qOf f r)
    by_cases he : (Qci p f r (qOf f r)).2 = 0
    ·rw [if_pos he]
     have ih2 := QtY p hp r hr hk bn l hl hll ki t (u ++ [f]) (acc ++ (Qci p f r (qOf f r)).1) (by rw [← h]; simp) (by simp; omega)
     refine Evt.imp2 ((QdG lb f r).and sp) ih2 fun n ⟨hw, hs⟩ hi k hk => ?_
     rw [ht] at hw
     obtain ⟨k, rfl⟩ : ∃ m, k = m + 1 := ⟨k - 1, by simp at hk; omega⟩
     have hi := hi k (by simp at hk; omega)
     rw [List.map_append, ← QrP] at hi
     rw [QcA, hw1]
     exact stT (decT (by simp; omega)) (stO _ (QaG (Qdb h)) (stC rfl (stO _ rfl (stO _ rfl (stO _ rfl (stO _ rfl (stO _ rfl (stO _ rfl (stF (beqF h1) (stO _ hw (stO _ (QaL _) (stF rfl (stO _ hs (stO _ rfl (stO _ rfl (stO _ rfl (stO _ rfl (stO _ (QaB ..) (stF (bneF he) (stO _ rfl (stC (by simp [flE]) (stC (Qa8 (by simp; omega) (by omega)) hi))))))))))))))))))))))
    ·rw [if_neg he]
     refine Evt.imp2 (QdG lb f r) sp fun n hw hs k hk => ?_
     rw [ht] at hw
     obtain ⟨k, rfl⟩ : ∃ m, k = m + 1 := ⟨k - 1, by simp at hk; omega⟩
     rw [QcA, hw1]
     exact stT (decT (by simp; omega)) (stO _ (QaG (Qdb h)) (stC rfl (stO _ rfl (stO _ rfl (stO _ rfl (stO _ rfl (stO _ rfl (stO _ rfl (stF (beqF h1) (stO _ hw (stO _ (QaL _) (stF rfl (stO _ hs (stO _ rfl (stO _ rfl (stO _ rfl (stO _ rfl (stO _ (QaB ..) (stT (bneT he) rfl)))))))))))))))))))
theorem Qu1 {l : List Fl} {r : Rv} (h : QeQ l r = 0) : 1 ≤ r.kind ∧ r.kind ≤ 5 := by
 unfold QeQ at h
 split at h
 ·cases h
 ·omega
theorem Qne (p : Pc) (hp : Qbw p) (r : Rv) (hr : OkR r) (bn : Bool) (l : List Fl) (hl : ∀ f ∈ l, OkF f) (hll : l.length ≤ 100000) : Ret lb Qbm [pcv p, .list bn (l.map flE), rvcv r] (Qee (Qqe p l r)) := by
 unfold Qqe
 by_cases ha : QeQ l r = 0
 ·rw [if_pos ha]
  refine .top rfl (Evt.imp2 (Qhd lb r bn l hll) (Evt.diag (QtY lb p hp r hr (Qu1 ha) bn l hl hll (.int .i64 (QeQ l r)) l [] [] rfl (by simp))) fun n h1 h2 => ?_)
  rw [QiC]
  exact stO _ h1 (stO _ (QaB ..) (stF (bneF ha) h2))
 ·rw [if_neg ha]
  refine .top rfl ((Qhd lb r bn l hll).mono fun n h1 => ?_)
  rw [QiC]
  exact stO _ h1 (stO _ (QaB ..) (stT (bneT ha) rfl))
end Go.Proofs
set_option linter.unusedSimpArgs false
set_option linter.unusedVariables false
namespace Go.Proofs
open Go.Am
variable (lb : Nat)
def outR (r : Rv) : List Fl → List Fl
 | [] => []
 | f :: t => (if QbM f r then (QbT f r (qOf f r)).1 else [f]) ++ outR r t
def newR (r : Rv) : List Fl → List Fl
 | [] => []
 | f :: t => (if QbM f r && decide (r.kind ≠ 2) then [Qap r f (qOf f r)] else []) ++ newR r t
def Qdi (r : Rv) : List Fl → Nat
 | [] => 0
 | f :: t => (if QbM f r then 1 else 0) + Qdi r t
def Qct (p : Pc) : List Fl → Option Int
 | [] => none
 | g :: t => match QaT p g with
  | e :: _ => some e.1
  | [] => Qct p t
def chkR (p : Pc) (out new : List Fl) : List Fl × Int := match Qct p new with
 | some e => ([], e)
 | none => (out, 0)
def Qn6 (g : Fl) : Prop := g.car.length ≤ 281474976710656 ∧ ∀ x ∈ g.legs, x.eq.length ≤ 281474976710656
theorem QuD (p : Pc) (hp : Qbw p) (r : Rv) (bn b : Bool) (L ol : List (List CV)) (i1 i2 : Int) (nb : Bool) (new : List Fl) (hg : ∀ g ∈ new, Qn6 g) (hlen : new.length ≤ 1000000) : ∀ (t u : List Fl), u ++ t = new → Evt fun n => ∀ k, t.length < k →
  Qhb lb n k p.an (p.aps.map apcv) p.dn (p.dis.map dicv) bn L r.kind r.car r.num r.fr r.to r.days r.min r.eq r.ln (r.legs.map lgcv) b ol nb (new.map flE) i1 i2 (u.length : Int) = some (match Qct p t with | some e => .tup [.list true [], .int .i64 e] | none => .tup [.list b ol, .int .i64 0])
 | [], u, h => by
  refine .all fun n k hk => ?_
  obtain ⟨k, rfl⟩ : ∃ m, k = m + 1 := ⟨k - 1, by simp at hk; omega⟩
  have hu : u = new := by simpa using h
  rw [Qiy, ← hu]
  refine stF (decF (by simp)) ?_
  rw [QpO]
  rfl
 | f :: t, u, h => by
  have hl : new.length = u.length + (t.length + 1) := by rw [← h]; simp
  have hw1 : IntKind.wrap .i64 ((u.length : Int) + 1) = ((u ++ [f]).length : Int) := by rw [Qaz (by omega) (by omega)]; simp
  obtain ⟨g1, g2⟩ := hg f (by rw [← h]; simp)
  refine Evt.imp2 (Qit lb p hp f (by omega) (fun x hx => by have := g2 x hx; omega)) (QuD p hp r bn b L ol i1 i2 nb new hg hlen t (u ++ [f]) (by rw [← h]; simp)) fun n hc hi k hk => ?_
  obtain ⟨k, rfl⟩ : ∃ m, k = m + 1 := ⟨k - 1, by simp at hk; omega⟩
  have hi := hi k (by simp at hk; omega)
  rw [Qiy, hw1]
  refine stT (decT (by simp; omega)) (stO _ (QaG (Qdb h)) (stC rfl (stO _ rfl (stO _ rfl (stO _ rfl (stO _ rfl (stO _ rfl (stO _ rfl (stO _ hc (stO _ rfl ?_))))))))))
  unfold Qct
  cases hch : QaT p f with
  | nil => exact stF (decF (by simp)) hi
  | cons e s => exact stT (decT (by simp)) (stO _ rfl (stO _ rfl (stC rfl (stO _ rfl rfl))))
theorem QuN (p : Pc) (hp : Qbw p) (r : Rv) (bn b : Bool) (L ol : List (List CV)) (i1 i2 : Int) (nb : Bool) (s : Bs) (j1 j2 j3 j4 : Int) (b2 : Bool) (l2 : List (List CV)) (new : List Fl) (hg : ∀ g ∈ new, Qn6 g) (hlen : new.length ≤ 1000000) : ∀ (t u : List Fl), u ++ t = new → Evt fun n => ∀ k, t.length < k →
  QgT lb n k p.an (p.aps.map apcv) p.dn (p.dis.map dicv) bn L r.kind r.car r.num r.fr r.to r.days r.min r.eq r.ln (r.legs.map lgcv) b ol nb (new.map flE) i1 i2 s j1 j2 j3 j4 b2 l2 (u.length : Int) = some (match Qct p t with | some e => .tup [.list true [], .int .i64 e] | none => .tup [.list b ol, .int .i64 0])
 | [], u, h => by
  refine .all fun n k hk => ?_
  obtain ⟨k, rfl⟩ : ∃ m, k = m + 1 := ⟨k - 1, by simp at hk; omega⟩
  have hu : u = new := by simpa using h
  rw [QiL, ← hu]
  refine stF (decF (by simp)) ?_
  rw [QpV]
  rfl
 | f :: t, u, h => by
  have hl : new.length = u.length + (t.length + 1) := by rw [← h]; simp
  have hw1 : IntKind.wrap .i64 ((u.length : Int) + 1) = ((u ++ [f]).length : Int) := by rw [Qaz (by omega) (by omega)]; simp
  obtain ⟨g1, g2⟩ := hg f (by rw [← h]; simp)
  refine Evt.imp2 (Qit lb p hp f (by omega) (fun x hx => by have := g2 x hx; omega)) (QuN p hp r bn b L ol i1 i2 nb s j1 j2 j3 j4 b2 l2 new hg hlen t (u ++ [f]) (by rw [← h]; simp)) fun n hc hi k hk => ?_
  obtain ⟨k, rfl⟩ : ∃ m, k = m + 1 := ⟨k - 1, by simp at hk; omega⟩
  have hi := hi k (by simp at hk; omega)
  rw [QiL, hw1]
  refine stT (decT (by simp; omega)) (stO _ (QaG (Qdb h)) (stC rfl (stO _ rfl (stO _ rfl (stO _ rfl (stO _ rfl (stO _ rfl (stO _ rfl (stO _ hc (stO _ rfl ?_))))))))))
  unfold Qct
  cases hch : QaT p f with
  | nil => exact stF (decF (by simp)) hi
  | cons e s => exact stT (decT (by simp)) (stO _ rfl (stO _ rfl (stC rfl (stO _ rfl rfl))))
theorem Qqa (f : Fl) (r : Rv) (q : P3) : (QbT f r q).1.length ≤ 4 := by
 have h : (QaW f r).length ≤ 3 := by unfold QaW; rw [List.length_map]; exact QgK f r
 unfold QbT
 split
 ·show (QaW f r).length ≤ 4; omega
 ·show (insF (Qap r f q) (QaW f r)).length ≤ 4; rw [Qk2]; omega
theorem Qn1 (p : Pc) (r : Rv) (hr : OkR r) (bn : Bool) (l : List Fl) (hl : ∀ f ∈ l, OkF f) (hll : l.length ≤ 100000) : ∀ (t u out new : List Fl) (many : Nat), u ++ t = l → out.length ≤ 4 * u.length → new.length ≤ u.length → many ≤ u.length → Evt fun n => ∀ k, t.length < k →
  QeB lb n k p.an (p.aps.map apcv) p.dn (p.dis.map dicv) bn (l.map flE) r.kind r.car r.num r.fr r.to r.days r.min r.eq r.ln (r.legs.map lgcv) out.isEmpty (out.map flE) new.isEmpty (new.map flE) (many : Int) (u.length : Int) =
   Qg8 lb n p.an (p.aps.map apcv) p.dn (p.dis.map dicv) bn (l.map flE) r.kind r.car r.num r.fr r.to r.days r.min r.eq r.ln (r.legs.map lgcv) (out ++ outR r t).isEmpty ((out ++ outR r t).map flE) (new ++ newR r t).isEmpty ((new ++ newR r t).map flE) ((many + Qdi r t : Nat) : Int) (l.length : Int)
 | [], u, out, new, many, h, h1, h2, h3 => by
  refine .all fun n k hk => ?_
  obtain ⟨k, rfl⟩ : ∃ m, k = m + 1 := ⟨k - 1, by simp at hk; omega⟩
  have hu : u = l := by simpa using h
  subst hu
  rw [Qeo]
  refine stF (decF (by simp)) ?_
  simp only [outR, newR, Qdi, List.append_nil, Nat.add_zero]
 | f :: t, u, out, new, many, h, h1, h2, h3 => by
  have hlen : l.length = u.length + (t.length + 1) := by rw [← h]; simp
  have hw1 : IntKind.wrap .i64 ((u.length : Int) + 1) = ((u ++ [f]).length : Int) := by rw [Qaz (by omega) (by omega)]; simp
  have hw2 : IntKind.wrap .i64 ((many : Int) + 1) = ((many + 1 : Nat) : Int) := by rw [Qaz (by omega) (by omega)]; simp
  have hf := hl f (by rw [← h]; simp)
  cases ht : QbM f r with
  | false =>
   refine Evt.imp2 (Qg2 lb f r) (Qn1 p r hr bn l hl hll t (u ++ [f]) (out ++ [f]) new many (by rw [← h]; simp) (by simp; omega) (by simp; omega) (by simp; omega)) fun n hw hi k hk => ?_
   rw [ht] at hw
   obtain ⟨k, rfl⟩ : ∃ m, k = m + 1 := ⟨k - 1, by simp at hk; omega⟩
   have hi := hi k (by simp at hk; omega)
   have e1 : outR r (f :: t) = [f] ++ outR r t := by simp [outR, ht]
   have e2 : newR r (f :: t) = newR r t := by simp [newR, ht]
   have e3 : Qdi r (f :: t) = Qdi r t := by simp [Qdi, ht]
   rw [e1, e2, e3, ← List.append_assoc]
   rw [List.map_append (l₁ := out) (l₂ := [f]), ← Qbr out f out.isEmpty] at hi
   rw [Qeo, hw1]
   exact stT (decT (by simp; omega)) (stO _ (QaG (Qdb h)) (stC rfl (stO _ rfl (stO _ rfl (stO _ rfl (stO _ rfl (stO _ rfl (stO _ rfl (stO _ hw (stO _ (QaL _) (stT rfl (stO _ (QaG (Qdb h)) (stC rfl (stO _ rfl (stO _ rfl (stO _ rfl (stO _ rfl (stO _ rfl (stO _ rfl (stC (Qa8 (by simp; omega) (by omega)) hi))))))))))))))))))))
  | true =>
   have sp := Qta lb f r (qOf f r) (by have := hf.len; omega) (QtI ht)
   have sl := Qqa f r (qOf f r)
   have e1 : outR r (f :: t) = (QbT f r (qOf f r)).1 ++ outR r t := by simp [outR, ht]
   have e3 : many + Qdi r (f :: t) = (many + 1) + Qdi r t := by simp [Qdi, ht]; omega
   rw [e1, e3, ← List.append_assoc]
   by_cases hk2 : r.kind = 2
   ·have e2 : newR r (f :: t) = newR r t := by simp [newR, hk2]
    rw [e2]
    have s2 : (QbT f r (qOf f r)).2 = -1 := by unfold QbT; rw [if_pos hk2]
    refine Evt.imp2 ((Qg2 lb f r).and sp) (Qn1 p r hr bn l hl hll t (u ++ [f]) (out ++ (QbT f r (qOf f r)).1) new (many + 1) (by rw [← h]; simp) (by simp; omega) (by simp; omega) (by simp; omega)) fun n ⟨hw, hs⟩ hi k hk => ?_
    rw [ht] at hw
    obtain ⟨k, rfl⟩ : ∃ m, k = m + 1 := ⟨k - 1, by simp at hk; omega⟩
    have hi := hi k (by simp at hk; omega)
    rw [List.map_append (l₁ := out) (l₂ := (QbT f r (qOf f r)).1), ← QrP] at hi
    rw [s2] at hs
    rw [Qeo, hw1, hw2]
    exact stT (decT (by simp; omega)) (stO _ (QaG (Qdb h)) (stC rfl (stO _ rfl (stO _ rfl (stO _ rfl (stO _ rfl (stO _ rfl (stO _ rfl (stO _ hw (stO _ (QaL _) (stF rfl (stO _ (QaG (Qdb h)) (stC rfl (stO _ rfl (stO _ rfl (stO _ rfl (stO _ rfl (stO _ rfl (stO _ rfl (stO _ hs (stO _ rfl (stO _ rfl (stO _ rfl (stO _ rfl (stO _ rfl (stC (by simp [flE]) (stC (Qa8 (by simp; omega) (by omega)) (stO _ (QaB ..) (stF rfl hi)))))))))))))))))))))))))))))
   ·have e2 : newR r (f :: t) = [Qap r f (qOf f r)] ++ newR r t := by simp [newR, hk2, ht]
    rw [e2, ← List.append_assoc]
    have s2 : QbT f r (qOf f r) = (insF (Qap r f (qOf f r)) (QaW f r), ((idxF (Qap r f (qOf f r)) (QaW f r) : Nat) : Int)) := by unfold QbT; rw [if_neg hk2]
    have hat : (((QbT f r (qOf f r)).1).map flE)[idxF (Qap r f (qOf f r)) (QaW f r)]? = some (flE (Qap r f (qOf f r))) := by
     rw [s2, List.getElem?_map, Qv2]; rfl
    have s3 : (QbT f r (qOf f r)).2 = ((idxF (Qap r f (qOf f r)) (QaW f r) : Nat) : Int) := by rw [s2]
    refine Evt.imp2 ((Qg2 lb f r).and sp) (Qn1 p r hr bn l hl hll t (u ++ [f]) (out ++ (QbT f r (qOf f r)).1) (new ++ [Qap r f (qOf f r)]) (many + 1) (by rw [← h]; simp) (by simp; omega) (by simp; omega) (by simp; omega)) fun n ⟨hw, hs⟩ hi k hk => ?_
    rw [ht] at hw
    obtain ⟨k, rfl⟩ : ∃ m, k = m + 1 := ⟨k - 1, by simp at hk; omega⟩
    have hi := hi k (by simp at hk; omega)
    rw [List.map_append (l₁ := out) (l₂ := (QbT f r (qOf f r)).1), ← QrP, List.map_append (l₁ := new) (l₂ := [Qap r f (qOf f r)]), ← Qbr new (Qap r f (qOf f r)) new.isEmpty] at hi
    rw [s3] at hs
    rw [Qeo, hw1, hw2]
    exact stT (decT (by simp; omega)) (stO _ (QaG (Qdb h)) (stC rfl (stO _ rfl (stO _ rfl (stO _ rfl (stO _ rfl (stO _ rfl (stO _ rfl (stO _ hw (stO _ (QaL _) (stF rfl (stO _ (QaG (Qdb h)) (stC rfl (stO _ rfl (stO _ rfl (stO _ rfl (stO _ rfl (stO _ rfl (stO _ rfl (stO _ hs (stO _ rfl (stO _ rfl (stO _ rfl (stO _ rfl (stO _ rfl (stC (by simp [flE]) (stC (Qa8 (by simp; omega) (by omega)) (stO _ (QaB ..) (stT (decT (by omega)) (stO _ rfl (stO _ rfl (stO _ (QaG hat) (stC rfl (stO _ rfl (stO _ rfl (stO _ rfl (stO _ rfl (stO _ rfl (stO _ rfl (stC (Qa8 (by simp; omega) (by omega)) hi))))))))))))))))))))))))))))))))))))))))
def resF (p : Pc) (l : List Fl) (r : Rv) : List Fl × Int :=
 if r.kind < 1 ∨ r.kind > 5 then ([], 8) else if perE r.fr r.to r.days ≠ 0 then ([], perE r.fr r.to r.days) else
 if r.kind = 1 then (if Qdi r l = 0 then chkR p (outR r l ++ [QcW r]) (newR r l ++ [QcW r]) else ([], 6)) else
 if Qdi r l = 0 then ([], 7) else chkR p (outR r l) (newR r l)
theorem Qsm {r : Rv} (hr : OkR r) : ∀ {l : List Fl}, (∀ f ∈ l, OkF f) → ∀ g ∈ newR r l, Qn6 g
 | [], _, g, hg => by simp [newR] at hg
 | f :: t, hl, g, hg => by
  unfold newR at hg
  rcases List.mem_append.1 hg with hg | hg
  ·split at hg
   ·simp at hg; subst hg; exact QlH (hl f (by simp)) hr _
   ·simp at hg
  ·exact Qsm hr (fun x hx => hl x (by simp [hx])) g hg
theorem Qpd (r : Rv) : ∀ l : List Fl, (outR r l).length ≤ 4 * l.length
 | [] => by simp [outR]
 | f :: t => by
  have := Qpd r t
  have := Qqa f r (qOf f r)
  unfold outR
  split <;> simp <;> omega
theorem Quz (r : Rv) : ∀ l : List Fl, (newR r l).length ≤ l.length
 | [] => by simp [newR]
 | f :: t => by
  have := Quz r t
  unfold newR
  split <;> simp <;> omega
theorem QAo (p : Pc) (out new : List Fl) : (match Qct p new with | some e => CV.tup [.list true [], .int .i64 e] | none => .tup [.list out.isEmpty (out.map flE), .int .i64 0]) = Qee (chkR p out new) := by
 unfold chkR
 cases Qct p new <;> rfl
theorem QzB (p : Pc) (hp : Qbw p) (r : Rv) (hr : OkR r) (bn : Bool) (L : List (List CV)) (out new : List Fl) (ho : out.length ≤ 900000) (hn : new.length ≤ 900000) (hg : ∀ g ∈ new, Qn6 g) (many : Nat) (i : Int) : Evt fun n =>
  Qg8 lb n p.an (p.aps.map apcv) p.dn (p.dis.map dicv) bn L r.kind r.car r.num r.fr r.to r.days r.min r.eq r.ln (r.legs.map lgcv) out.isEmpty (out.map flE) new.isEmpty (new.map flE) (many : Int) i =
   some (Qee (if r.kind = 1 then (if many = 0 then chkR p (out ++ [QcW r]) (new ++ [QcW r]) else ([], 6)) else if many = 0 then ([], 7) else chkR p out new)) := by
 have q7 := Evt.diag (QuD lb p hp r bn out.isEmpty L (out.map flE) (many : Int) i new.isEmpty new hg (by omega) new [] rfl)
 have q4 := Evt.diag (QuN lb p hp r bn (out ++ [QcW r]).isEmpty L ((out ++ [QcW r]).map flE) (many : Int) i (new ++ [QcW r]).isEmpty r.car r.num r.fr r.to r.days r.ln (r.legs.map lgcv) (new ++ [QcW r]) (fun g hg' => by
  rcases List.mem_append.1 hg' with h | h
  ·exact hg g h
  ·simp at h; subst h; exact ⟨hr.car, hr.eq⟩) (by simp; omega) (new ++ [QcW r]) [] rfl)
 refine Evt.imp2 q7 q4 fun n a7 a4 => ?_
 rw [QAo] at a7 a4
 rw [Qrc]
 by_cases h1 : r.kind = 1
 ·rw [if_pos h1]
  by_cases hm : many = 0
  ·rw [if_pos hm]
   refine stT (beqT h1) (stF (decF (by omega)) (stF (bneF h1) (stT (beqT h1) (stC (Qa8 (by simp; omega) (by omega)) (stC (Qa8 (by simp; omega) (by omega)) ?_)))))
   rw [Qq7]
   rw [List.map_append (l₁ := out), List.map_append (l₁ := new), ← Qbr out (QcW r) out.isEmpty, ← Qbr new (QcW r) new.isEmpty] at a4
   exact a4
  ·rw [if_neg hm]
   exact stT (beqT h1) (stT (decT (by omega)) rfl)
 ·rw [if_neg h1]
  by_cases hm : many = 0
  ·rw [if_pos hm]
   exact stF (beqF h1) (stT (bneT h1) (stT (beqT (by omega)) rfl))
  ·rw [if_neg hm]
   refine stF (beqF h1) (stT (bneT h1) (stF (beqF (by omega)) (stF (beqF h1) ?_)))
   rw [Qql]
   exact a7
theorem Qs9 (p : Pc) (hp : Qbw p) (r : Rv) (hr : OkR r) (bn : Bool) (l : List Fl) (hl : ∀ f ∈ l, OkF f) (hll : l.length ≤ 100000) : Ret lb QaD [pcv p, .list bn (l.map flE), rvcv r] (Qee (resF p l r)) := by
 have ho := Qpd r l
 have hn := Quz r l
 have a := Evt.diag (Qn1 lb p r hr bn l hl hll l [] [] [] 0 rfl (by simp) (by simp) (by simp))
 have b := QzB lb p hp r hr bn (l.map flE) (outR r l) (newR r l) (by omega) (by omega) (Qsm hr hl) (0 + Qdi r l) (l.length : Int)
 refine .top rfl (Evt.imp2 (Qdx lb r.fr r.to r.days) (a.and b) fun n h1 ⟨h2, h3⟩ => ?_)
 rw [QuR]
 unfold resF
 by_cases a1 : r.kind < 1
 ·rw [if_pos (.inl a1)]; exact stT (decT a1) rfl
 ·by_cases a2 : r.kind > 5
  ·rw [if_pos (.inr a2)]; exact stF (decF a1) (stT (decT a2) rfl)
  ·rw [if_neg (by omega)]
   refine stF (decF a1) (stF (decF a2) (stO _ h1 (stO _ (QaB ..) ?_)))
   by_cases a3 : perE r.fr r.to r.days = 0
   ·rw [if_neg (by simpa using a3)]
    rw [Nat.zero_add] at h3
    have h2' := h2
    rw [Nat.zero_add] at h2'
    exact stF (bneF a3) (h2'.trans h3)
   ·rw [if_pos a3]
    exact stT (bneT a3) (stO _ h1 rfl)
end Go.Proofs
set_option linter.unusedSimpArgs false
set_option linter.unusedVariables false
namespace Go.Proofs
open Go.Am
theorem Qu8 {f : Fl} {e : Ft} (h : e ∈ QdW f) : e.1 ≠ 0 := by
 unfold QdW at h
 simp only [List.mem_append] at h
 rcases h with (h | h) | h
 ·split at h
  ·simp at h
  ·simp at h; rw [h]; decide
 ·split at h
  ·simp at h
  ·simp at h; rw [h]; decide
 ·split at h
  ·rename_i hh; simp at h hh; rw [h]; exact hh
  ·simp at h
theorem QzJ {p : Pc} {q : List Lg} {x : Lg} {e : Int} (h : e ∈ legE p q x) : e ≠ 0 := by
 unfold legE at h
 simp only [List.mem_append] at h
 rcases h with ((h | h) | h) | h <;> (split at h <;> simp at h <;> subst h <;> decide)
theorem QsP {p : Pc} {e : Ft} : ∀ (t q : List Lg), e ∈ Qa2 p q t → e.1 ≠ 0
 | [], q, h => by simp [Qa2] at h
 | x :: t, q, h => by
  unfold Qa2 at h
  rcases List.mem_append.1 h with h | h
  ·obtain ⟨z, hz, rfl⟩ := List.mem_map.1 h
   exact QzJ hz
  ·exact QsP t _ h
theorem Qt9 {p : Pc} {l : List Lg} {e : Ft} : ∀ (r : List Int), e ∈ QcI p l r → e.1 ≠ 0
 | [], h => by simp [QcI] at h
 | d :: r, h => by
  unfold QcI at h
  split at h
  ·exact Qt9 r h
  ·simp at h; subst h; simp
theorem QxV {p : Pc} {f : Fl} {e : Ft} (h : e ∈ QaT p f) : e.1 ≠ 0 := by
 unfold QaT at h
 split at h
 ·unfold QfS at h
  rcases List.mem_append.1 h with h | h
  ·exact Qu8 h
  ·split at h
   ·simp at h; subst h; simp
   ·simp at h
 ·split at h
  ·exact Qt9 _ h
  ·rcases List.mem_append.1 h with h | h
   ·exact Qu8 h
   ·exact QsP _ _ h
theorem Qt2 (r : Rv) : ∀ l : List Fl, (l.any (QbM · r) = false) ↔ Qdi r l = 0
 | [] => by simp [Qdi]
 | f :: t => by
  have := Qt2 r t
  cases h : QbM f r <;> simp [Qdi, h, this]
theorem QtD (r : Rv) : ∀ l : List Fl, Qdi r l = 0 → outR r l = l ∧ newR r l = []
 | [], _ => ⟨rfl, rfl⟩
 | f :: t, h => by
  have ht : QbM f r = false := by
   cases h1 : QbM f r with
   | false => rfl
   | true => simp [Qdi, h1] at h
  have h2 : Qdi r t = 0 := by simp [Qdi, ht] at h; exact h
  obtain ⟨a, b⟩ := QtD r t h2
  simp [outR, newR, ht, a, b]
theorem Qsw (p : Pc) (r : Rv) (h1 : r.kind = 1) : ∀ (t acc : List Fl), Qd5 p r acc t = finP p r (acc ++ t)
 | [], acc => by simp [Qd5]
 | f :: t, acc => by
  have := Qsw p r h1 t (acc ++ [f])
  rw [Qd5, if_pos h1, this]; simp
theorem Qj7 (p : Pc) (r : Rv) (h1 : r.kind ≠ 1) : ∀ (t acc : List Fl), Qd5 p r acc t = chkR p (acc ++ outR r t) (newR r t)
 | [], acc => by
  show finP p r acc = _
  unfold finP
  rw [if_neg h1]
  simp [outR, newR, chkR, Qct]
 | f :: t, acc => by
  rw [Qd5, if_neg h1]
  cases ht : QbM f r with
  | false =>
   rw [if_pos rfl, Qj7 p r h1 t (acc ++ [f])]
   simp [outR, newR, ht]
  | true =>
   rw [if_neg (by simp)]
   by_cases h2 : r.kind = 2
   ·have e : Qci p f r (qOf f r) = (QaW f r, 0) := by unfold Qci; rw [if_pos h2]
    have e2 : QbT f r (qOf f r) = (QaW f r, -1) := by unfold QbT; rw [if_pos h2]
    rw [e, if_pos rfl, Qj7 p r h1 t]
    simp [outR, newR, ht, e2, h2]
   ·have e2 : (QbT f r (qOf f r)).1 = insF (Qap r f (qOf f r)) (QaW f r) := by unfold QbT; rw [if_neg h2]
    have e3 : newR r (f :: t) = Qap r f (qOf f r) :: newR r t := by simp [newR, ht, h2]
    have e4 : outR r (f :: t) = insF (Qap r f (qOf f r)) (QaW f r) ++ outR r t := by simp [outR, ht, e2]
    rw [e3, e4]
    cases hc : QaT p (Qap r f (qOf f r)) with
    | nil =>
     have e : Qci p f r (qOf f r) = (insF (Qap r f (qOf f r)) (QaW f r), 0) := by unfold Qci; rw [if_neg h2, hc]
     rw [e, if_pos rfl, Qj7 p r h1 t]
     unfold chkR
     rw [Qct, hc, List.append_assoc]
    | cons x s =>
     have e : Qci p f r (qOf f r) = ([], x.1) := by unfold Qci; rw [if_neg h2, hc]
     have hx : x.1 ≠ 0 := QxV (p := p) (f := Qap r f (qOf f r)) (by rw [hc]; simp)
     rw [e, if_neg hx]
     unfold chkR
     rw [Qct, hc]
theorem QyA (p : Pc) (l : List Fl) (r : Rv) : Qqe p l r = resF p l r := by
 unfold Qqe resF QeQ
 by_cases a1 : r.kind < 1 ∨ r.kind > 5
 ·rw [if_pos a1, if_pos a1]; rfl
 ·rw [if_neg a1, if_neg a1]
  by_cases a3 : perE r.fr r.to r.days ≠ 0
  ·rw [if_pos a3, if_pos a3, if_neg a3]
  ·rw [if_neg a3, if_neg a3]
   have m := Qt2 r l
   unfold anyE
   by_cases h1 : r.kind = 1
   ·rw [if_pos h1, if_pos h1, if_pos h1]
    by_cases hm : Qdi r l = 0
    ·rw [m.2 hm, if_pos hm]
     obtain ⟨o1, o2⟩ := QtD r l hm
     rw [o1, o2]
     simp only [Bool.false_eq_true, if_false, if_true]
     rw [Qsw p r h1, List.nil_append]
     unfold finP chkR
     rw [if_pos h1, List.nil_append, Qct]
     cases QaT p (QcW r) <;> simp [Qct]
    ·have : l.any (QbM · r) = true := by
      cases h : l.any (QbM · r) with
      | true => rfl
      | false => exact absurd (m.1 h) hm
     rw [this, if_neg hm]
     simp
   ·rw [if_neg h1, if_neg h1, if_neg h1]
    by_cases hm : Qdi r l = 0
    ·rw [m.2 hm, if_pos hm]
     simp
    ·have : l.any (QbM · r) = true := by
      cases h : l.any (QbM · r) with
      | true => rfl
      | false => exact absurd (m.1 h) hm
     rw [this, if_neg hm]
     simp only [if_true]
     rw [Qj7 p r h1, List.nil_append]
end Go.Proofs
set_option linter.unusedSimpArgs false
set_option linter.unusedVariables false
namespace Go.Proofs
open Go.Am
variable (lb : Nat)
def Qzn : Bs := [102, 108, 105, 103, 104, 116, 32]
def atS (i : Nat) : Bs := Qzn ++ Lib.itoa (i : Int)
def ownE (i : Nat) (e : Ft) : Ft := (e.1, (atS i ++ [32]) ++ e.2)
def ft8 (p : Pc) (i : Nat) (tw : Bool) (f : Fl) : List Ft := (QaT p f).map (ownE i) ++ if tw then [(6, atS i)] else []
def QiW (p : Pc) : List Fl → List Fl → List Ft
 | _, [] => []
 | q, f :: t => ft8 p q.length (q.any (Qey · f)) f ++ QiW p (q ++ [f]) t
theorem Qsn {f : Fl} {e : Ft} (h : e ∈ QdW f) : e.2.length ≤ 100 := by
 unfold QdW at h
 simp only [List.mem_append] at h
 rcases h with (h | h) | h
 ·split at h
  ·simp at h
  ·simp at h; rw [h]; decide
 ·split at h
  ·simp at h
  ·simp at h; rw [h]; decide
 ·split at h
  ·simp at h; rw [h]; show wPeriod.length ≤ 100; decide
  ·simp at h
theorem QqA {p : Pc} {e : Ft} : ∀ (t q : List Lg), q.length + t.length ≤ 1000 → e ∈ Qa2 p q t → e.2.length ≤ 100
 | [], q, _, h => by simp [Qa2] at h
 | x :: t, q, hq, h => by
  unfold Qa2 at h
  rcases List.mem_append.1 h with h | h
  ·obtain ⟨z, hz, rfl⟩ := List.mem_map.1 h
   have := QeO (z := (q.length : Int)) (by omega) (by simp at hq; omega)
   have : wLeg.length = 4 := rfl
   simp; omega
  ·exact QqA t _ (by simp at hq ⊢; omega) h
theorem QsA {p : Pc} {l : List Lg} {e : Ft} : ∀ (r : List Int), e ∈ QcI p l r → e.2.length ≤ 100
 | [], h => by simp [QcI] at h
 | d :: r, h => by
  unfold QcI at h
  split at h
  ·exact QsA r h
  ·simp at h; rw [h]
   have : wDay.length = 4 := rfl
   have := QmD d
   simp; omega
theorem QwC {p : Pc} {f : Fl} {e : Ft} (h : e ∈ QaT p f) : e.2.length ≤ 100 := by
 unfold QaT at h
 split at h
 ·unfold QfS at h
  rcases List.mem_append.1 h with h | h
  ·exact Qsn h
  ·split at h
   ·simp at h; rw [h]; decide
   ·simp at h
 ·split at h
  ·exact QsA _ h
  ·rcases List.mem_append.1 h with h | h
   ·exact Qsn h
   ·exact QqA _ _ (by simp; omega) h
theorem Qsl (p : Pc) (l : List Lg) : ∀ (D : List Int), (QcI p l D).length ≤ 1
 | [] => by simp [QcI]
 | d :: D => by
  have := Qsl p l D
  unfold QcI; split <;> simp [this]
theorem Ql7 (p : Pc) (f : Fl) : (QaT p f).length ≤ 50 := by
 unfold QaT
 have hg := QjO f
 split
 ·unfold QfS; rw [List.length_append]
  have : (if (decide ((f.legs.length : Int) < 1) || decide ((f.legs.length : Int) > 6)) then [(4, QnU)] else [] : List Ft).length ≤ 1 := by split <;> simp
  omega
 ·split
  ·have := Qsl p f.legs (Qat f.fr f.to f.days); omega
  ·rw [List.length_append]; have := Qi1 p f.legs []; omega
theorem Qzz (p : Pc) (i : Nat) (tw : Bool) (f : Fl) : (ft8 p i tw f).length ≤ 51 := by
 have := Ql7 p f
 unfold ft8
 cases tw <;> simp <;> omega
theorem QyQ (n k0 : Nat) (p : Pc) (bn : Bool) (L : List (List CV)) (i : Nat) (hi : i ≤ 1000) (f : Fl) (yz : CV) (H : List Ft) (hH : H.length ≤ 900000) : ∀ (t u : List Ft) (k : Nat), u ++ t = QaT p f → t.length < k →
  QgO lb n k k0 p.an (p.aps.map apcv) p.dn (p.dis.map dicv) bn L (i : Int) (Lib.itoa (i : Int)) (Qb9 (QaT p f)) yz (flE f) (.str f.car) (.int .i64 f.num) (.int .i64 f.fr) (.int .i64 f.to) (.int .i64 f.days) (.list f.ln (f.legs.map lgcv)) (H ++ u.map (ownE i)).isEmpty ((H ++ u.map (ownE i)).map Qba) (u.length : Int) =
   Qjn lb n k0 p.an (p.aps.map apcv) p.dn (p.dis.map dicv) bn L (i : Int) (Lib.itoa (i : Int)) (Qb9 (QaT p f)) yz (flE f) (.str f.car) (.int .i64 f.num) (.int .i64 f.fr) (.int .i64 f.to) (.int .i64 f.days) (.list f.ln (f.legs.map lgcv)) (H ++ (QaT p f).map (ownE i)).isEmpty ((H ++ (QaT p f).map (ownE i)).map Qba) ((QaT p f).length : Int)
 | [], u, k, h, hk => by
  obtain ⟨k, rfl⟩ : ∃ m, k = m + 1 := ⟨k - 1, by simp at hk; omega⟩
  have hu : u = QaT p f := by simpa using h
  rw [QiB, hu]
  exact stO _ rfl (stF (decF (by simp)) rfl)
 | e :: t, u, k, h, hk => by
  obtain ⟨k, rfl⟩ : ∃ m, k = m + 1 := ⟨k - 1, by simp at hk; omega⟩
  have hc := Ql7 p f
  have hl : (QaT p f).length = u.length + (t.length + 1) := by rw [← h]; simp
  have hs := QwC (p := p) (f := f) (e := e) (by rw [← h]; simp)
  have hit := QeO (z := (i : Int)) (by omega) (by omega)
  have hw1 : IntKind.wrap .i64 ((u.length : Int) + 1) = ((u ++ [e]).length : Int) := by rw [Qaz (by omega) (by omega)]; simp
  have hg : ((QaT p f).map Qba)[u.length]? = some (Qba e) := by rw [← h]; simp
  have ih := QyQ n k0 p bn L i hi f yz H hH t (u ++ [e]) k (by rw [← h]; simp) (by simp at hk; omega)
  have e2 : H ++ (u ++ [e]).map (ownE i) = (H ++ u.map (ownE i)) ++ [ownE i e] := by simp
  rw [e2, List.map_append (l₁ := H ++ u.map (ownE i)) (l₂ := [ownE i e]), ← Qbr (H ++ u.map (ownE i)) (ownE i e) (H ++ u.map (ownE i)).isEmpty] at ih
  rw [QiB, hw1]
  refine stO _ rfl (stT (decT (by simp; omega)) (stO _ rfl (stO _ (QaG hg) (stC rfl (stO _ rfl (stC (decT (by simp; omega)) (stO _ rfl (stO _ (QaG hg) (stC rfl (stO _ rfl (stO _ rfl (stC (decT (by simp; omega)) (stC rfl (stC (Qa8 (by simp; omega) (by omega)) ih))))))))))))))
theorem Qy0 (p : Pc) (bn : Bool) (l : List Fl) (q : List Fl) (f : Fl) (t0 : List Fl) (hq : q ++ f :: t0 = l) (hql : q.length ≤ 1000) (b : Bool) (H : List (List CV)) (s140 : Bs) (yi yz : CV) (vi : Int) (c141 : List CV) (x1 x2 x3 x4 x5 x6 : CV) : ∀ (t u : List Fl), u ++ t = q → Evt fun n => ∀ k k0, t.length < k →
  QfN lb n k k0 p.an (p.aps.map apcv) p.dn (p.dis.map dicv) bn (l.map flE) b H (q.length : Int) s140 yi vi yz c141 x1 x2 x3 x4 x5 x6 (.bool (u.any (Qey · f))) (u.length : Int) =
   Qjx lb n k0 p.an (p.aps.map apcv) p.dn (p.dis.map dicv) bn (l.map flE) b H (q.length : Int) s140 yi vi yz c141 x1 x2 x3 x4 x5 x6 (.bool (q.any (Qey · f))) (q.length : Int)
 | [], u, h => by
  refine .all fun n k k0 hk => ?_
  obtain ⟨k, rfl⟩ : ∃ m, k = m + 1 := ⟨k - 1, by simp at hk; omega⟩
  have hu : u = q := by simpa using h
  rw [QiD, hu]
  exact stF (decF (by simp)) rfl
 | x :: t, u, h => by
  have hl : q.length = u.length + (t.length + 1) := by rw [← h]; simp
  have hw1 : IntKind.wrap .i64 ((u.length : Int) + 1) = ((u ++ [x]).length : Int) := by rw [Qaz (by omega) (by omega)]; simp
  have hx : (l.map flE)[u.length]? = some (flE x) := by rw [← hq, ← h]; simp
  refine Evt.imp2 (Qtl lb x f) (Qy0 p bn l q f t0 hq hql b H s140 yi yz vi c141 x1 x2 x3 x4 x5 x6 t (u ++ [x]) (by rw [← h]; simp)) fun n hm hi k k0 hk => ?_
  obtain ⟨k, rfl⟩ : ∃ m, k = m + 1 := ⟨k - 1, by simp at hk; omega⟩
  have hi := hi k k0 (by simp at hk; omega)
  rw [QiD, hw1]
  refine stT (decT (by omega)) (stO _ (QaL _) ?_)
  cases ha : u.any (Qey · f) with
  | true =>
   have e : (u ++ [x]).any (Qey · f) = true := by rw [List.any_append, ha]; rfl
   rw [e] at hi
   exact stT rfl hi
  | false =>
   have e : (u ++ [x]).any (Qey · f) = Qey x f := by rw [List.any_append, ha]; simp
   rw [e] at hi
   exact stF rfl (stO _ (QaG hx) (stC rfl (stO _ rfl (stO _ rfl (stO _ rfl (stO _ rfl (stO _ rfl (stO _ rfl (stO _ (QaG (Qdb hq)) (stC rfl (stO _ rfl (stO _ rfl (stO _ rfl (stO _ rfl (stO _ rfl (stO _ rfl (stO _ hm hi)))))))))))))))))
theorem Qy3 (p : Pc) (hp : Qbw p) (bn : Bool) (l : List Fl) (hl : ∀ f ∈ l, Qn6 f) (hll : l.length ≤ 1000) : ∀ (t q : List Fl) (H : List Ft), q ++ t = l → H.length ≤ 51 * q.length → Evt fun n => ∀ k, t.length < k →
  QgL lb n k p.an (p.aps.map apcv) p.dn (p.dis.map dicv) bn (l.map flE) H.isEmpty (H.map Qba) (q.length : Int) = some (Qb9 (H ++ QiW p q t))
 | [], q, H, h, hH => by
  refine .all fun n k hk => ?_
  obtain ⟨k, rfl⟩ : ∃ m, k = m + 1 := ⟨k - 1, by simp at hk; omega⟩
  have hu : q = l := by simpa using h
  rw [QiH, hu]
  refine stF (decF (by simp)) ?_
  rw [Qq4]
  simp [QiW, Qb9]
 | f :: t, q, H, h, hH => by
  have hlen : l.length = q.length + (t.length + 1) := by rw [← h]; simp
  have hw1 : IntKind.wrap .i64 ((q.length : Int) + 1) = ((q ++ [f]).length : Int) := by rw [Qaz (by omega) (by omega)]; simp
  obtain ⟨g1, g2⟩ := hl f (by rw [← h]; simp)
  have hf8 := Qzz p q.length (q.any (Qey · f)) f
  have hc := Ql7 p f
  have hit := QeO (z := (q.length : Int)) (by omega) (by omega)
  have q4 := Qy0 lb p bn l q f t h (by omega) (H ++ (QaT p f).map (ownE q.length)).isEmpty ((H ++ (QaT p f).map (ownE q.length)).map Qba) (Lib.itoa (q.length : Int)) (Qb9 (QaT p f)) (.str (Lib.itoa (q.length : Int))) ((QaT p f).length : Int) (flE f) (.str f.car) (.int .i64 f.num) (.int .i64 f.fr) (.int .i64 f.to) (.int .i64 f.days) (.list f.ln (f.legs.map lgcv)) q [] rfl
  refine Evt.imp2 ((Qfu lb (q.length : Int) (by omega) (by omega)).and ((Qit lb p hp f (by omega) (fun x hx => by have := g2 x hx; omega)).and (Evt.ge 1100))) (Evt.and q4 (Qy3 p hp bn l hl hll t (q ++ [f]) (H ++ ft8 p q.length (q.any (Qey · f)) f) (by rw [← h]; simp) (by simp; omega))) fun n ⟨a1, a2, a3⟩ ⟨a4, hi⟩ k hk => ?_
  obtain ⟨k, rfl⟩ : ∃ m, k = m + 1 := ⟨k - 1, by simp at hk; omega⟩
  have hi := hi k (by simp at hk; omega)
  have a4 := a4 n k (by omega)
  have z := QyQ lb n k p bn (l.map flE) q.length (by omega) f (.str (Lib.itoa (q.length : Int))) H (by omega) (QaT p f) [] n rfl (by omega)
  rw [List.map_nil, List.append_nil] at z
  rw [QiH]
  refine stT (decT (by simp; omega)) (stO _ a1 (stO _ rfl (stC (decT (by simp; omega)) (stO _ (QaG (Qdb h)) (stC rfl (stO _ rfl (stO _ rfl (stO _ rfl (stO _ rfl (stO _ rfl (stO _ rfl (stO _ a2 (z.trans ?_)))))))))))))
  rw [QqL]
  refine a4.trans ?_
  rw [Qq6]
  refine stO _ (QaL _) ?_
  have e9 : QiW p q (f :: t) = ft8 p q.length (q.any (Qey · f)) f ++ QiW p (q ++ [f]) t := rfl
  rw [e9, ← List.append_assoc]
  cases ha : q.any (Qey · f) with
  | true =>
   rw [ha] at hi
   have e : H ++ ft8 p q.length true f = (H ++ (QaT p f).map (ownE q.length)) ++ [(6, atS q.length)] := by simp [ft8]
   rw [e] at hi ⊢
   rw [List.map_append (l₁ := H ++ (QaT p f).map (ownE q.length)) (l₂ := [(6, atS q.length)]), ← Qbr (H ++ (QaT p f).map (ownE q.length)) (6, atS q.length) (H ++ (QaT p f).map (ownE q.length)).isEmpty] at hi
   refine stT rfl (stC (Qa8 (by simp; omega) (by omega)) ?_)
   rw [QjZ, hw1]
   exact hi
  | false =>
   rw [ha] at hi
   have e : H ++ ft8 p q.length false f = H ++ (QaT p f).map (ownE q.length) := by simp [ft8]
   rw [e] at hi ⊢
   refine stF rfl ?_
   rw [QjZ, hw1]
   exact hi
theorem QsV (p : Pc) (hp : Qbw p) (bn : Bool) (l : List Fl) (hl : ∀ f ∈ l, Qn6 f) (hll : l.length ≤ 1000) : Ret lb Qag [pcv p, .list bn (l.map flE)] (Qb9 (QiW p [] l)) := by
 refine .top rfl ((Evt.diag (Qy3 lb p hp bn l hl hll l [] [] rfl (by simp))).mono fun n h => ?_)
 rw [Qu2]
 exact h
theorem QsN {p : Pc} : ∀ {t q : List Fl}, QiW p q t = [] → (∀ f ∈ t, QaT p f = []) 
 | [], q, _ => by simp
 | f :: t, q, h => by
  unfold QiW at h
  obtain ⟨h1, h2⟩ := List.append_eq_nil_iff.1 h
  intro g hg
  rcases List.mem_cons.1 hg with rfl | hg
  ·unfold ft8 at h1
   obtain ⟨h3, _⟩ := List.append_eq_nil_iff.1 h1
   exact List.map_eq_nil_iff.1 h3
  ·exact QsN h2 g hg
end Go.Proofs
set_option linter.unusedSimpArgs false
set_option linter.unusedVariables false
namespace Go.Proofs
open Go.Am
variable (lb : Nat)
def ArgL (l : List Fl) : Prop := l.length ≤ 281474976710656 ∧ ∀ f ∈ l, ArgF f ∧ (f.ln = true → f.legs = [])
def ArgR (r : Rv) : Prop := r.car.length ≤ 281474976710656 ∧ r.legs.length ≤ 281474976710656 ∧ (∀ x ∈ r.legs, Qdg x ≤ 1000000000000000) ∧ (r.ln = true → r.legs = [])
def Qk7 (p : Pc) (l : List Fl) : Bool := decide (l.length > 12) || (decide (p.aps.length > 20) || (decide (p.dis.length > 40) || l.any (bigB p)))
theorem Qxm (p : Pc) (hp : ArgP p) (bn : Bool) (l : List Fl) (hl : ∀ f ∈ l, ArgF f) (hll : l.length ≤ 1000) : ∀ (t u : List Fl), u ++ t = l → Evt fun n => ∀ k, t.length < k →
  r10_Big_L1 lb n k p.an (p.aps.map apcv) p.dn (p.dis.map dicv) bn (l.map flE) (u.length : Int) = some (.bool (t.any (bigB p)))
 | [], u, h => by
  refine .all fun n k hk => ?_
  obtain ⟨k, rfl⟩ : ∃ m, k = m + 1 := ⟨k - 1, by simp at hk; omega⟩
  have hu : u = l := by simpa using h
  rw [Qkb, hu]
  refine stF (decF (by simp)) ?_
  rw [Qtm]
  rfl
 | f :: t, u, h => by
  have hlen : l.length = u.length + (t.length + 1) := by rw [← h]; simp
  have hw1 : IntKind.wrap .i64 ((u.length : Int) + 1) = ((u ++ [f]).length : Int) := by rw [Qaz (by omega) (by omega)]; simp
  refine Evt.imp2 (QzE lb p f hp (hl f (by rw [← h]; simp))) (Qxm p hp bn l hl hll t (u ++ [f]) (by rw [← h]; simp)) fun n hm hi k hk => ?_
  obtain ⟨k, rfl⟩ : ∃ m, k = m + 1 := ⟨k - 1, by simp at hk; omega⟩
  have hi := hi k (by simp at hk; omega)
  rw [Qkb, hw1]
  refine stT (decT (by simp; omega)) (stO _ (QaG (Qdb h)) (stC rfl (stO _ rfl (stO _ rfl (stO _ rfl (stO _ rfl (stO _ rfl (stO _ rfl (stO _ hm (stO _ (QaL _) ?_))))))))))
  rw [List.any_cons]
  cases bigB p f with
  | true => exact stT rfl rfl
  | false => exact stF rfl (by simpa using hi)
theorem QkI (p : Pc) (hp : ArgP p) (bn : Bool) (l : List Fl) (hl : ArgL l) : Ret lb Qc4 [pcv p, .list bn (l.map flE)] (.bool (Qk7 p l)) := by
 unfold Qk7
 by_cases h1 : l.length > 12
 ·refine .top rfl (.all fun n => ?_)
  rw [QiR, decT h1]
  exact stT (decT (by simp; omega)) rfl
 ·by_cases h2 : p.aps.length > 20
  ·refine .top rfl (.all fun n => ?_)
   rw [QiR, decF h1, decT h2]
   exact stF (decF (by simp; omega)) (stT (decT (by simp; omega)) rfl)
  ·by_cases h3 : p.dis.length > 40
   ·refine .top rfl (.all fun n => ?_)
    rw [QiR, decF h1, decF h2, decT h3]
    exact stF (decF (by simp; omega)) (stF (decF (by simp; omega)) (stT (decT (by simp; omega)) rfl))
   ·refine .top rfl ((Evt.diag (Qxm lb p hp bn l (fun f hf => (hl.2 f hf).1) (by omega) l [] rfl)).mono fun n h => ?_)
    rw [QiR, decF h1, decF h2, decF h3]
    exact stF (decF (by simp; omega)) (stF (decF (by simp; omega)) (stF (decF (by simp; omega)) h))
def Qm7 (p : Pc) (l : List Fl) : Bool := !Qk7 p l && ((Qht p).isEmpty && (QiW p [] l).isEmpty)
theorem QmE {p : Pc} {l : List Fl} (h : Qk7 p l = false) : l.length ≤ 12 ∧ p.aps.length ≤ 20 ∧ p.dis.length ≤ 40 ∧ ∀ f ∈ l, bigB p f = false := by
 unfold Qk7 at h
 simp only [Bool.or_eq_false_iff, decide_eq_false_iff_not] at h
 obtain ⟨h1, h2, h3, h4⟩ := h
 refine ⟨by omega, by omega, by omega, fun f hf => ?_⟩
 have := List.any_eq_false.1 h4 f hf
 simpa using this
theorem QwE (F : List Ft) : (((F.map Qba).length : Int) == 0) = F.isEmpty := by cases F with
 | nil => rfl
 | cons e F => exact beqF (by simp; omega)
theorem Qtn (p : Pc) (hp : ArgP p) (bn : Bool) (l : List Fl) (hl : ArgL l) : Ret lb QkA [pcv p, .list bn (l.map flE)] (.bool (Qm7 p l)) := by
 unfold Qm7
 cases hB : Qk7 p l with
 | true =>
  refine .top rfl ((QkI lb p hp bn l hl).mono fun n h => ?_)
  rw [Qju]
  exact stO _ h (stO _ rfl (stF (by rw [hB]; rfl) rfl))
 | false =>
  obtain ⟨b1, b2, b3, b4⟩ := QmE hB
  have hP := Qtg lb p (by omega) (by omega) hp.2.2
  cases hF : (Qht p).isEmpty with
  | false =>
   refine .top rfl (Evt.imp2 (QkI lb p hp bn l hl) hP fun n h h2 => ?_)
   rw [Qju]
   exact stO _ h (stO _ rfl (stT (by rw [hB]; rfl) (stO _ h2 (stO _ rfl (stF (by rw [QwE, hF]) rfl)))))
  | true =>
   have hS := QkV (p := p) (by omega) (by simpa using hF)
   have h8 := QsV lb p hS bn l (fun f hf => by
    obtain ⟨c1, c2, _⟩ := QlS (b4 f hf)
    exact ⟨by omega, fun x hx => by have := (c2 x hx).2.2; omega⟩) (by omega)
   refine .top rfl (Evt.imp2 (QkI lb p hp bn l hl) (Evt.and hP h8) fun n h ⟨h2, h3⟩ => ?_)
   rw [Qju]
   refine stO _ h (stO _ rfl (stT (by rw [hB]; rfl) (stO _ h2 (stO _ rfl (stT (by rw [QwE, hF]) (stO _ h3 (stO _ rfl ?_)))))))
   rw [QwE]; rfl
theorem QyD {p : Pc} {l : List Fl} (hl : ArgL l) (h : Qm7 p l = true) : Qbw p ∧ (∀ f ∈ l, OkF f) ∧ l.length ≤ 12 ∧ ∀ f ∈ l, QaT p f = [] := by
 unfold Qm7 at h
 simp only [Bool.and_eq_true, Bool.not_eq_true', List.isEmpty_iff] at h
 obtain ⟨h1, h2, h3⟩ := h
 obtain ⟨b1, b2, b3, b4⟩ := QmE h1
 have hc := QsN h3
 refine ⟨QkV (p := p) (by omega) h2, fun f hf => ?_, b1, hc⟩
 obtain ⟨c1, c2, c3, _⟩ := QlS (b4 f hf)
 obtain ⟨k1, k2, _⟩ := QqZ (hc f hf)
 have hne : f.legs ≠ [] := fun e => by rw [e] at k2; simp at k2
 exact ⟨by cases hb : f.ln with | false => rfl | true => exact absurd ((hl.2 f hf).2 hb) hne, hne, by omega, by omega, fun x hx => by have := (c2 x hx).2.2; omega⟩
def QkN (r : Rv) : Bool := decide (r.eq.length ≤ 100) && !bigB pc0 ⟨r.car, 0, 0, 0, 0, r.ln, r.legs⟩
theorem Qs8 (r : Rv) (hr : ArgR r) : Ret lb Qky [rvcv r] (.bool (QkN r)) := by
 have hb := Qow lb pc0 ⟨r.car, 0, 0, 0, 0, r.ln, r.legs⟩ hr.1 hr.2.2.1 hr.2.1 (by simp [pc0]) (by simp [pc0])
 refine .top rfl (hb.mono fun n h => ?_)
 rw [QtM]
 unfold QkN
 by_cases h1 : r.eq.length ≤ 100
 ·rw [decT h1]
  exact stT (decT (by omega)) (stO _ h (stO _ rfl rfl))
 ·rw [decF h1]
  exact stF (decF (by omega)) rfl
theorem Qyb {r : Rv} (h : QkN r = true) : OkR r ∧ r.legs.length ≤ 12 := by
 unfold QkN at h
 simp only [Bool.and_eq_true, Bool.not_eq_true', decide_eq_true_eq] at h
 obtain ⟨c1, c2, c3, _⟩ := QlS h.2
 exact ⟨⟨by have : r.car.length ≤ 400 := c1; omega, by omega, fun x hx => by have := (c2 x hx).2.2; omega⟩, c3⟩
theorem Qxd (a b : Bool) (l : List Fl) (hl : ∀ f ∈ l, f.legs.length ≤ 1000) (hll : l.length ≤ 1000000) : ∀ (t u : List Fl), u ++ t = l → Evt fun n => ∀ k, t.length < k →
  QfT lb n k a (l.map flE) b (l.map flE) (u.length : Int) = some (.bool true)
 | [], u, h => by
  refine .all fun n k hk => ?_
  obtain ⟨k, rfl⟩ : ∃ m, k = m + 1 := ⟨k - 1, by simp at hk; omega⟩
  have hu : u = l := by simpa using h
  rw [Qhh, hu]
  refine stF (decF (by simp)) ?_
  rw [Qn9]
 | f :: t, u, h => by
  have hlen : l.length = u.length + (t.length + 1) := by rw [← h]; simp
  have hw1 : IntKind.wrap .i64 ((u.length : Int) + 1) = ((u ++ [f]).length : Int) := by rw [Qaz (by omega) (by omega)]; simp
  have hf := hl f (by rw [← h]; simp)
  refine Evt.imp2 (QuY lb f f hf hf) (Qxd a b l hl hll t (u ++ [f]) (by rw [← h]; simp)) fun n hm hi k hk => ?_
  obtain ⟨k, rfl⟩ : ∃ m, k = m + 1 := ⟨k - 1, by simp at hk; omega⟩
  have hi := hi k (by simp at hk; omega)
  have hs : Qtw f f = true := by simp [Qtw, Qse]
  rw [hs] at hm
  rw [Qhh, hw1]
  exact stT (decT (by simp; omega)) (stO _ (QaG (Qdb h)) (stC rfl (stO _ rfl (stO _ rfl (stO _ rfl (stO _ rfl (stO _ rfl (stO _ rfl (stO _ (QaG (Qdb h)) (stC rfl (stO _ rfl (stO _ rfl (stO _ rfl (stO _ rfl (stO _ rfl (stO _ rfl (stO _ hm (stO _ rfl (stF rfl hi)))))))))))))))))))
theorem QtN (a b : Bool) (l : List Fl) (hl : ∀ f ∈ l, f.legs.length ≤ 1000) (hll : l.length ≤ 1000000) : Ret lb QbR [.list a (l.map flE), .list b (l.map flE)] (.bool true) := by
 refine .top rfl ((Evt.diag (Qxd lb a b l hl hll l [] rfl)).mono fun n h => ?_)
 rw [QrA]
 exact stF (bneF rfl) h
theorem Qv7 {g z : Fl} : ∀ {P : List Fl}, z ∈ insF g P → z = g ∨ z ∈ P
 | [], h => by simp [insF] at h; exact .inl h
 | y :: t, h => by
  unfold insF at h
  split at h
  ·rcases List.mem_cons.1 h with h | h
   ·exact .inl h
   ·exact .inr h
  ·rcases List.mem_cons.1 h with h | h
   ·exact .inr (by rw [h]; simp)
   ·rcases Qv7 h with h | h
    ·exact .inl h
    ·exact .inr (by simp [h])
def From (r : Rv) (l : List Fl) (z : Fl) : Prop := z ∈ l ∨ (∃ f ∈ l, QbM f r = true ∧ z ∈ QaW f r) ∨ z ∈ newR r l
theorem QsH (r : Rv) : ∀ (l : List Fl) (z : Fl), z ∈ outR r l → From r l z
 | [], z, h => by simp [outR] at h
 | f :: t, z, h => by
  unfold outR at h
  rcases List.mem_append.1 h with h | h
  ·cases ht : QbM f r with
   | false => rw [ht] at h; simp at h; exact .inl (by simp [h])
   | true =>
    rw [ht] at h
    simp only [if_true] at h
    unfold QbT at h
    split at h
    ·exact .inr (.inl ⟨f, by simp, ht, h⟩)
    ·rename_i hk
     rcases Qv7 h with h | h
     ·exact .inr (.inr (by unfold newR; simp [ht, hk, h]))
     ·exact .inr (.inl ⟨f, by simp, ht, h⟩)
  ·rcases QsH r t z h with h | ⟨g, hg, h1, h2⟩ | h
   ·exact .inl (by simp [h])
   ·exact .inr (.inl ⟨g, by simp [hg], h1, h2⟩)
   ·exact .inr (.inr (by unfold newR; simp [h]))
theorem QsR (r : Rv) : ∀ (l : List Fl) (z : Fl), z ∈ newR r l → ∃ f ∈ l, QbM f r = true ∧ z = Qap r f (qOf f r)
 | [], z, h => by simp [newR] at h
 | f :: t, z, h => by
  unfold newR at h
  rcases List.mem_append.1 h with h | h
  ·split at h
   ·rename_i hh
    simp only [Bool.and_eq_true] at hh
    exact ⟨f, by simp, hh.1, by simpa using h⟩
   ·simp at h
  ·obtain ⟨g, h1, h2, h3⟩ := QsR r t z h
   exact ⟨g, by simp [h1], h2, h3⟩
theorem Qvg {r : Rv} {f : Fl} {q : P3} (h1 : f.legs.length ≤ 100) (h2 : r.legs.length ≤ 100) : (Qap r f q).legs.length ≤ 100 := by
 unfold Qap
 split
 ·exact h2
 ·simpa using h1
theorem Qrv (p : Pc) (l : List Fl) (r : Rv) : (resF p l r).1.length ≤ 4 * l.length + 1 := by
 have h := Qpd r l
 have hc : ∀ (out new : List Fl), (chkR p out new).1.length ≤ out.length := fun out new => by
  unfold chkR
  split <;> simp
 unfold resF
 split
 ·simp
 ·split
  ·simp
  ·split
   ·split
    ·have := hc (outR r l ++ [QcW r]) (newR r l ++ [QcW r])
     simp at this; omega
    ·simp
   ·split
    ·simp
    ·have := hc (outR r l) (newR r l); omega
end Go.Proofs
set_option linter.unusedSimpArgs false
set_option linter.unusedVariables false
namespace Go.Proofs
open Go.Am
variable (lb : Nat)
def SmR (r : Rv) : Prop := OkR r ∧ r.legs.length ≤ 12 ∧ (r.ln = true → r.legs = [])
theorem Qmm {p : Pc} : ∀ {l : List Fl}, Qct p l = none → ∀ g ∈ l, QaT p g = []
 | [], _, g, hg => by simp at hg
 | x :: t, h, g, hg => by
  unfold Qct at h
  cases hc : QaT p x with
  | cons e s => rw [hc] at h; simp at h
  | nil =>
   rw [hc] at h
   rcases List.mem_cons.1 hg with rfl | hg
   ·exact hc
   ·exact Qmm h g hg
theorem QkG {p : Pc} {f : Fl} (h : QaT p f = []) : f.legs ≠ [] := fun e => by
 obtain ⟨_, k2, _⟩ := QqZ h
 rw [e] at k2; simp at k2
theorem QvV {b : Bool} {l : List Lg} (h : b = true → l = []) (hne : l ≠ []) : b = false := by
 cases b with
 | false => rfl
 | true => exact absurd (h rfl) hne
theorem QzK {f : Fl} (hf : OkF f) (x : P3) : OkF (Qa3 f x) := ⟨hf.ln, hf.ne, hf.len, hf.car, hf.eq⟩
theorem Qvj {p : Pc} {f : Fl} {r : Rv} (hf : OkF f) (hr : SmR r) (q : P3) (hc : QaT p (Qap r f q) = []) : OkF (Qap r f q) := by
 obtain ⟨c1, c2⟩ := QlH hf hr.1 q
 have hne := QkG hc
 refine ⟨?_, hne, Qvg hf.len (by have := hr.2.1; omega), c1, c2⟩
 unfold Qap at hne ⊢
 by_cases h5 : r.kind = 5
 ·rw [if_pos h5] at hne ⊢
  exact QvV hr.2.2 hne
 ·rw [if_neg h5]
  show f.legs.isEmpty = false
  simpa using hf.ne
theorem Qzp {p : Pc} {r : Rv} (hr : SmR r) (hc : QaT p (QcW r) = []) : OkF (QcW r) :=
 ⟨QvV hr.2.2 (QkG (f := QcW r) hc), QkG hc, by have := hr.2.1; show r.legs.length ≤ 100; omega, hr.1.car, hr.1.eq⟩
theorem Qrm {p : Pc} {l : List Fl} {r : Rv} (hl : ∀ f ∈ l, OkF f) (hr : SmR r) : ∀ z ∈ (resF p l r).1, OkF z := by
 have ho : (∀ g ∈ newR r l, QaT p g = []) → ∀ z ∈ outR r l, OkF z := fun hn z hz => by
  rcases QsH r l z hz with h | ⟨f, hf, _, h⟩ | h
  ·exact hl z h
  ·obtain ⟨x, _, rfl⟩ := List.mem_map.1 h
   exact QzK (hl f hf) x
  ·have hc := hn z h
   obtain ⟨f, hf, _, rfl⟩ := QsR r l z h
   exact Qvj (hl f hf) hr _ hc
 have hc : ∀ (out new : List Fl), ((∀ g ∈ new, QaT p g = []) → ∀ z ∈ out, OkF z) → ∀ z ∈ (chkR p out new).1, OkF z := fun out new h z hz => by
  unfold chkR at hz
  cases hb : Qct p new with
  | none => rw [hb] at hz; exact h (Qmm hb) z hz
  | some e => rw [hb] at hz; simp at hz
 intro z hz
 unfold resF at hz
 split at hz
 ·simp at hz
 ·split at hz
  ·simp at hz
  ·split at hz
   ·split at hz
    ·refine hc _ _ (fun hn z hz => ?_) z hz
     rcases List.mem_append.1 hz with h | h
     ·exact ho (fun g hg => hn g (by simp [hg])) z h
     ·simp at h; subst h; exact Qzp hr (hn (QcW r) (by simp))
    ·simp at hz
   ·split at hz
    ·simp at hz
    ·exact hc _ _ ho z hz
def allF (p : Pc) : Bool → List Fl → Int → List Rv → Bool × List Fl × Int × Int
 | b, l, i, [] => (b, l, i, 0)
 | b, l, i, r :: t => if (resF p l r).2 = 0 then allF p (resF p l r).1.isEmpty (resF p l r).1 (i + 1) t else (true, [], i, (resF p l r).2)
def allV (x : Bool × List Fl × Int × Int) : CV := .tup [.list x.1 (x.2.1.map flE), .int .i64 x.2.2.1, .int .i64 x.2.2.2]
def rvE (r : Rv) : List CV := [.int .i64 r.kind, .str r.car, .int .i64 r.num, .int .i64 r.fr, .int .i64 r.to, .int .i64 r.days, .int .i64 r.min, .str r.eq, .list r.ln (r.legs.map lgcv)]
theorem QkU {l u t : List Rv} {f : Rv} (h : u ++ f :: t = l) : (l.map rvE)[u.length]? = some (rvE f) := by rw [← h]; simp
theorem four {n m a t : Nat} (h : (n + 1) * 4 ^ (t + 1) ≤ a) (hm : m ≤ 4 * n + 1) : (m + 1) * 4 ^ t ≤ a := by
 have h1 : (m + 1) * 4 ^ t ≤ (4 * (n + 1)) * 4 ^ t := Nat.mul_le_mul_right _ (by omega)
 have h2 : (4 * (n + 1)) * 4 ^ t = (n + 1) * 4 ^ (t + 1) := by rw [Nat.pow_succ, Nat.mul_comm 4, Nat.mul_assoc, Nat.mul_comm 4]
 omega
theorem QrK {n a t : Nat} (h : (n + 1) * 4 ^ t ≤ a) : n ≤ a := by
 have h1 : (n + 1) * 1 ≤ (n + 1) * 4 ^ t := Nat.mul_le_mul_left _ (Nat.one_le_pow _ _ (by decide))
 omega
theorem QuC (p : Pc) (hp : Qbw p) (cn : Bool) (rs : List Rv) (hrs : ∀ r ∈ rs, SmR r) (hll : rs.length ≤ 1000) : ∀ (t u : List Rv) (b : Bool) (l : List Fl), u ++ t = rs → (∀ f ∈ l, OkF f) → (l.length + 1) * 4 ^ t.length ≤ 13312 → Evt fun n => ∀ k, t.length < k →
  revision_All_L1 lb n k p.an (p.aps.map apcv) p.dn (p.dis.map dicv) cn (rs.map rvE) (.list b (l.map flE)) (u.length : Int) = some (allV (allF p b l (u.length : Int) t))
 | [], u, b, l, h, hl, h4 => by
  refine .all fun n k hk => ?_
  obtain ⟨k, rfl⟩ : ∃ m, k = m + 1 := ⟨k - 1, by simp at hk; omega⟩
  have hu : u = rs := by simpa using h
  rw [QeX, hu]
  refine stF (decF (by simp)) ?_
  rw [Qnf]
  simp [allF, allV]
 | r :: t, u, b, l, h, hl, h4 => by
  have hlen : rs.length = u.length + (t.length + 1) := by rw [← h]; simp
  have hw1 : IntKind.wrap .i64 ((u.length : Int) + 1) = ((u ++ [r]).length : Int) := by rw [Qaz (by omega) (by omega)]; simp
  have e1 : (u.length : Int) + 1 = ((u ++ [r]).length : Int) := by simp
  have hr := hrs r (by rw [← h]; simp)
  have a1 := Qne lb p hp r hr.1 b l hl (by have := QrK h4; omega)
  rw [QyA] at a1
  unfold allF
  by_cases he : (resF p l r).2 = 0
  ·rw [if_pos he]
   refine Evt.imp2 a1 (QuC p hp cn rs hrs hll t (u ++ [r]) (resF p l r).1.isEmpty (resF p l r).1 (by rw [← h]; simp) (Qrm hl hr) (four h4 (Qrv p l r))) fun n ha hi k hk => ?_
   obtain ⟨k, rfl⟩ : ∃ m, k = m + 1 := ⟨k - 1, by simp at hk; omega⟩
   have hi := hi k (by simp at hk; omega)
   rw [e1]
   rw [QeX, hw1]
   exact stT (decT (by simp; omega)) (stO _ (QaG (QkU h)) (stC rfl (stO _ rfl (stO _ rfl (stO _ rfl (stO _ rfl (stO _ rfl (stO _ rfl (stO _ rfl (stO _ rfl (stO _ rfl (stO _ ha (stO _ rfl (stO _ rfl (stO _ rfl (stO _ rfl (stO _ (QaB ..) (stF (bneF he) hi))))))))))))))))))
  ·rw [if_neg he]
   refine a1.mono fun n ha k hk => ?_
   obtain ⟨k, rfl⟩ : ∃ m, k = m + 1 := ⟨k - 1, by simp at hk; omega⟩
   rw [QeX, hw1]
   exact stT (decT (by simp; omega)) (stO _ (QaG (QkU h)) (stC rfl (stO _ rfl (stO _ rfl (stO _ rfl (stO _ rfl (stO _ rfl (stO _ rfl (stO _ rfl (stO _ rfl (stO _ rfl (stO _ ha (stO _ rfl (stO _ rfl (stO _ rfl (stO _ rfl (stO _ (QaB ..) (stT (bneT he) rfl))))))))))))))))))
theorem QvW (p : Pc) (hp : Qbw p) (cn : Bool) (rs : List Rv) (hrs : ∀ r ∈ rs, SmR r) (hll : rs.length ≤ 1000) : ∀ (t u : List Rv) (b : Bool) (l : List Fl), u ++ t = rs → (∀ f ∈ l, OkF f) → (l.length + 1) * 4 ^ t.length ≤ 13312 → Evt fun n => ∀ k, t.length < k →
  QiZ lb n k p.an (p.aps.map apcv) p.dn (p.dis.map dicv) cn (rs.map rvE) (.list b (l.map flE)) (u.length : Int) = some (allV (allF p b l (u.length : Int) t))
 | [], u, b, l, h, hl, h4 => by
  refine .all fun n k hk => ?_
  obtain ⟨k, rfl⟩ : ∃ m, k = m + 1 := ⟨k - 1, by simp at hk; omega⟩
  have hu : u = rs := by simpa using h
  rw [Qhg, hu]
  refine stF (decF (by simp)) ?_
  rw [Qtp]
  simp [allF, allV]
 | r :: t, u, b, l, h, hl, h4 => by
  have hlen : rs.length = u.length + (t.length + 1) := by rw [← h]; simp
  have hw1 : IntKind.wrap .i64 ((u.length : Int) + 1) = ((u ++ [r]).length : Int) := by rw [Qaz (by omega) (by omega)]; simp
  have e1 : (u.length : Int) + 1 = ((u ++ [r]).length : Int) := by simp
  have hr := hrs r (by rw [← h]; simp)
  have a1 := Qs9 lb p hp r hr.1 b l hl (by have := QrK h4; omega)
  unfold allF
  by_cases he : (resF p l r).2 = 0
  ·rw [if_pos he]
   refine Evt.imp2 a1 (QvW p hp cn rs hrs hll t (u ++ [r]) (resF p l r).1.isEmpty (resF p l r).1 (by rw [← h]; simp) (Qrm hl hr) (four h4 (Qrv p l r))) fun n ha hi k hk => ?_
   obtain ⟨k, rfl⟩ : ∃ m, k = m + 1 := ⟨k - 1, by simp at hk; omega⟩
   have hi := hi k (by simp at hk; omega)
   rw [e1]
   rw [Qhg, hw1]
   exact stT (decT (by simp; omega)) (stO _ (QaG (QkU h)) (stC rfl (stO _ rfl (stO _ rfl (stO _ rfl (stO _ rfl (stO _ rfl (stO _ rfl (stO _ rfl (stO _ rfl (stO _ rfl (stO _ ha (stO _ rfl (stO _ rfl (stO _ rfl (stO _ rfl (stO _ (QaB ..) (stF (bneF he) hi))))))))))))))))))
  ·rw [if_neg he]
   refine a1.mono fun n ha k hk => ?_
   obtain ⟨k, rfl⟩ : ∃ m, k = m + 1 := ⟨k - 1, by simp at hk; omega⟩
   rw [Qhg, hw1]
   exact stT (decT (by simp; omega)) (stO _ (QaG (QkU h)) (stC rfl (stO _ rfl (stO _ rfl (stO _ rfl (stO _ rfl (stO _ rfl (stO _ rfl (stO _ rfl (stO _ rfl (stO _ rfl (stO _ ha (stO _ rfl (stO _ rfl (stO _ rfl (stO _ rfl (stO _ (QaB ..) (stT (bneT he) rfl))))))))))))))))))
theorem QqC (p : Pc) (hp : Qbw p) : ∀ (t : List Rv) (b : Bool) (l : List Fl) (i : Int), (∀ r ∈ t, SmR r) → (∀ f ∈ l, OkF f) → (l.length + 1) * 4 ^ t.length ≤ 13312 → (allF p b l i t).2.1.length ≤ 13312 ∧ ∀ f ∈ (allF p b l i t).2.1, f.legs.length ≤ 1000
 | [], b, l, i, _, hl, h4 => ⟨QrK h4, fun f hf => by have := (hl f hf).len; omega⟩
 | r :: t, b, l, i, hr, hl, h4 => by
  unfold allF
  split
  ·exact QqC p hp t _ _ _ (fun x hx => hr x (by simp [hx])) (Qrm hl (hr r (by simp))) (four h4 (Qrv p l r))
  ·simp
theorem Qyc (p : Pc) (hp : Qbw p) (bn cn : Bool) (l : List Fl) (hl : ∀ f ∈ l, OkF f) (hl12 : l.length ≤ 12) (rs : List Rv) (hrs : ∀ r ∈ rs, SmR r) (h5 : rs.length ≤ 5) (i : Int) :
  Evt fun n => QeY lb n p.an (p.aps.map apcv) p.dn (p.dis.map dicv) bn (l.map flE) cn (rs.map rvE) i = some (.bool true) := by
 have h4 : (l.length + 1) * 4 ^ rs.length ≤ 13312 := by
  have : 4 ^ rs.length ≤ 4 ^ 5 := Nat.pow_le_pow_right (by decide) h5
  calc (l.length + 1) * 4 ^ rs.length ≤ 13 * 4 ^ 5 := Nat.mul_le_mul (by omega) this
   _ = 13312 := by decide
 have a1 : Ret lb Qbz [pcv p, .list bn (l.map flE), .list cn (rs.map rvE)] (allV (allF p bn l 0 rs)) :=
  .top rfl ((Evt.diag (QuC lb p hp cn rs hrs (by omega) rs [] bn l rfl hl h4)).mono fun n h => by rw [QqO]; exact h)
 have a2 : Ret lb Qc3 [pcv p, .list bn (l.map flE), .list cn (rs.map rvE)] (allV (allF p bn l 0 rs)) :=
  .top rfl ((Evt.diag (QvW lb p hp cn rs hrs (by omega) rs [] bn l rfl hl h4)).mono fun n h => by rw [QwP]; exact h)
 obtain ⟨s1, s2⟩ := QqC p hp rs bn l 0 hrs hl h4
 have sa := QtN lb (allF p bn l 0 rs).1 (allF p bn l 0 rs).1 (allF p bn l 0 rs).2.1 s2 (by omega)
 refine Evt.imp2 (a1.and a2) (Evt.and sa (QpY lb)) fun n ⟨h1, h2⟩ ⟨h3, h4⟩ => ?_
 rw [QjJ]
 exact stO _ h1 (stO _ rfl (stO _ rfl (stO _ rfl (stO _ rfl (stO _ rfl (stO _ rfl (stO _ h2 (stO _ rfl (stO _ rfl (stO _ rfl (stO _ rfl (stO _ rfl (stO _ rfl (stO _ h3 (stO _ rfl (stT rfl (stO _ (QaB ..) (stO _ (QaB ..) (stT (beqT rfl) (stO _ (QaB ..) (stO _ (QaB ..) (stT (beqT rfl) (stO _ h4 rfl)))))))))))))))))))))))
theorem Qpn (p : Pc) (hp : ArgP p) (bn : Bool) (l : List Fl) (hl : ArgL l) (cn : Bool) (rs : List Rv) (hrs : ∀ r ∈ rs, ArgR r) (hll : rs.length ≤ 281474976710656) : Ret lb Qbd [pcv p, .list bn (l.map flE), .list cn (rs.map rvE)] (.bool true) := by
 have aw := QpY lb
 have rt := Qtn lb p hp bn l hl
 cases hR : Qm7 p l with
 | false =>
  refine .top rfl (Evt.imp2 rt aw fun n h1 h2 => ?_)
  rw [QeP]
  exact stO _ h1 (stO _ rfl (stT (by rw [hR]; rfl) (stO _ h2 rfl)))
 | true =>
  obtain ⟨r1, r2, r3, r4⟩ := QyD hl hR
  by_cases h5 : rs.length > 5
  ·refine .top rfl (Evt.imp2 rt aw fun n h1 h2 => ?_)
   rw [QeP]
   exact stO _ h1 (stO _ rfl (stF (by rw [hR]; rfl) (stT (decT (by simp; omega)) (stO _ h2 rfl))))
  ·have loop : ∀ (t u : List Rv), u ++ t = rs → (∀ r ∈ u, QkN r = true) → Evt fun n => ∀ k, t.length < k → QdE lb n k p.an (p.aps.map apcv) p.dn (p.dis.map dicv) bn (l.map flE) cn (rs.map rvE) (u.length : Int) = some (.bool true) := by
    intro t
    induction t with
    | nil =>
     intro u h hu
     have hu' : u = rs := by simpa using h
     refine (Qyc lb p r1 bn cn l r2 (by omega) rs (fun r hr => ?_) (by omega) (rs.length : Int)).mono fun n hJ k hk => ?_
     ·obtain ⟨s1, s2⟩ := Qyb (hu r (by rw [hu']; exact hr))
      exact ⟨s1, s2, (hrs r hr).2.2.2⟩
     ·obtain ⟨k, rfl⟩ : ∃ m, k = m + 1 := ⟨k - 1, by simp at hk; omega⟩
      rw [QdD, hu']
      exact stF (decF (by simp)) hJ
    | cons r t ih =>
     intro u h hu
     have hlen : rs.length = u.length + (t.length + 1) := by rw [← h]; simp
     have hw1 : IntKind.wrap .i64 ((u.length : Int) + 1) = ((u ++ [r]).length : Int) := by rw [Qaz (by omega) (by omega)]; simp
     have sm := Qs8 lb r (hrs r (by rw [← h]; simp))
     cases hS : QkN r with
     | false =>
      refine Evt.imp2 sm aw fun n h1 h2 k hk => ?_
      obtain ⟨k, rfl⟩ : ∃ m, k = m + 1 := ⟨k - 1, by simp at hk; omega⟩
      rw [QdD]
      exact stT (decT (by simp; omega)) (stO _ (QaG (QkU h)) (stC rfl (stO _ rfl (stO _ rfl (stO _ rfl (stO _ rfl (stO _ rfl (stO _ rfl (stO _ rfl (stO _ rfl (stO _ rfl (stO _ h1 (stO _ rfl (stT (by rw [hS]; rfl) (stO _ h2 rfl)))))))))))))))
     | true =>
      refine Evt.imp2 sm (ih (u ++ [r]) (by rw [← h]; simp) (fun x hx => by
       rcases List.mem_append.1 hx with hx | hx
       ·exact hu x hx
       ·simp at hx; subst hx; exact hS)) fun n h1 hi k hk => ?_
      obtain ⟨k, rfl⟩ : ∃ m, k = m + 1 := ⟨k - 1, by simp at hk; omega⟩
      have hi := hi k (by simp at hk; omega)
      rw [QdD, hw1]
      exact stT (decT (by simp; omega)) (stO _ (QaG (QkU h)) (stC rfl (stO _ rfl (stO _ rfl (stO _ rfl (stO _ rfl (stO _ rfl (stO _ rfl (stO _ rfl (stO _ rfl (stO _ rfl (stO _ h1 (stO _ rfl (stF (by rw [hS]; rfl) hi))))))))))))))
   refine .top rfl (Evt.imp2 rt (Evt.diag (loop rs [] rfl (by simp))) fun n h1 h2 => ?_)
   rw [QeP]
   exact stO _ h1 (stO _ rfl (stF (by rw [hR]; rfl) (stF (decF (by simp; omega)) h2)))
end Go.Proofs
