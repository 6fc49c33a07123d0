/- Chapter 10 on plain data: the stable sort of a few flights by their first days (printed by mkns.py). Conditions: as each says. -/
import Derived.Test.YtdcpdknginpohaaGreatDoorVs
import Derived.Test.YtdcpdknginpohaaGreatDoorKB
import Derived.Test.YtdcpdknginpohaaGreatDoorNA
import Derived.Test.YtdcpdknginpohaaGreatDoorNh
import Derived.Test.YtdcpdknginpohaaGreatDoorKC
import Derived.Test.YtdcpdknginpohaaGreatDoorVd
import Derived.Test.YtdcpdknginpohaaGreatDoorW10
set_option linter.unusedSimpArgs false
set_option linter.unusedVariables false
set_option maxRecDepth 100000
namespace Go.Proofs
open Go.Am
variable (lb : Nat)
theorem QtD {ι : Type} {f : FuncId} {args : ι → List CV} {r : ι → CV} (hL : L lb f = none) (h : Evt fun n => ∀ i, top lb n f (args i) = some (r i)) : Evt fun n => ∀ i, C lb n f (args i) = some (r i) := by
 obtain ⟨N, hN⟩ := h
 refine ⟨N + 1, fun n hn i => ?_⟩
 obtain ⟨m, rfl⟩ : ∃ m, n = m + 1 := ⟨n - 1, by omega⟩
 rw [Qyf lb m f (args i) hL]
 exact hN m (by omega) i
def cmpI (a b : Int) : Int := if a < b then -1 else if a > b then 1 else 0
theorem Qso : Evt fun n => ∀ a : Int, C lb n Qfg [.int .i64 a] = some (.bool false) := QtD lb rfl (.all fun n a => by rw [QoT]; simp)
theorem Qpr : Evt fun n => ∀ p : Int × Int, C lb n QfQ [.int .i64 p.1, .int .i64 p.2] = some (.int .i64 (cmpI p.1 p.2)) := by
 refine QtD lb rfl ((Qso lb).mono fun n h p => ?_)
 obtain ⟨a, b⟩ := p
 rw [Qna]
 refine stO _ (h a) (stO _ (h b) (stO _ rfl (stF rfl (stO _ rfl (stF rfl ?_)))))
 unfold cmpI
 by_cases c : a < b
 ·rw [if_pos c]; exact stT (decT c) rfl
 ·rw [if_neg c]
  by_cases d : a > b
  ·rw [if_pos d]; exact stF (decF c) (stT (decT d) rfl)
  ·rw [if_neg d]; exact stF (decF c) (stF (decF d) rfl)
def flE (f : Fl) : List CV := [.str f.car, .int .i64 f.num, .int .i64 f.fr, .int .i64 f.to, .int .i64 f.days, .list f.ln (f.legs.map lgcv)]
def Cmp (n : Nat) : Prop := ∀ p : Fl × Fl, C lb n Qac [.agg (flE p.1), .agg (flE p.2)] = some (.int .i64 (cmpI p.1.fr p.2.fr))
theorem QyM : Evt fun n => Cmp lb n := by
 refine QtD lb rfl ((Qpr lb).mono fun n h p => ?_)
 unfold flE
 rw [Ql7]
 exact stO _ (h (p.1.fr, p.2.fr)) rfl
def insR (x : Fl) : List Fl → List Fl
 | [] => [x]
 | y :: r => if x.fr < y.fr then y :: insR x r else x :: y :: r
def QeF : List Fl → List Fl → List Fl
 | S, [] => S
 | S, x :: R => QeF (insR x S.reverse).reverse R
theorem Qhs (x : Fl) : ∀ S : List Fl, (insR x S).length = S.length + 1
 | [] => rfl
 | y :: r => by
  unfold insR
  split
  ·simp [Qhs x r]
  ·simp
theorem Qml : ∀ (R S : List Fl), (QeF S R).length = S.length + R.length
 | [], S => rfl
 | x :: R, S => by rw [QeF, Qml R]; simp [Qhs]; omega
theorem QqE {α : Type} (Q : List α) (x a : α) : ∀ P : List α, setN (P ++ x :: Q) P.length a = P ++ a :: Q
 | [] => rfl
 | p :: P => by
  show p :: setN (P ++ x :: Q) P.length a = _
  rw [QqE Q x a P]; rfl
theorem QqR {α : Type} (P Q : List α) (y x a : α) : setN (P ++ y :: x :: Q) (P.length + 1) a = P ++ y :: a :: Q := by
 have := QqE Q x a (P ++ [y])
 simpa using this
theorem set2 {α : Type} (P Q : List α) (y x a b : α) : setN (setN (P ++ y :: x :: Q) (P.length + 1) a) P.length b = P ++ b :: a :: Q := by
 rw [QqR, QqE]
theorem Qf9 (k : Nat) : 0 + ((k : Int)).toNat = k := by omega
theorem Qw4 {k : Nat} (h : k ≤ 1000) : IntKind.wrap .i64 (((k + 1 : Nat) : Int) - 1) = (k : Int) := by
 rw [QaB (by omega) (by omega)]; omega
theorem QwT (n jl jL : Nat) (jJ jh we : Int) (jR : Bool) (jV : List (List CV)) (jU : Bool) (jT : List (List CV)) (jS : List UInt8) (jW jx js jA : Int) (ju : Bool) (jn : List (List CV)) (jo : Int) (jy : List UInt8) (jv jr jz jm jt : Int) (jp : List UInt8) (jB : Bool) (jq wi : List (List CV)) (wv wq wp wo ww wu : CV) (K : AV → List (List (Option (List AV))) → Option CV) (wK : Nat) (wy : Int) (h0 : jh = 0) (hc : Cmp lb n) (x : Fl) : ∀ (P Q : List Fl) (k : Nat), P.length < k → jl = P.length + 1 + Q.length → jl ≤ 1000 →
  Qbx lb n k jl jL jJ jh we jR jV jU jT jS jW jx js jA ju jn jo jy jv jr jz jm jt jp jB jq wi wv wq wp wo ww wu K wK wy (P.length : Int) ((P.reverse ++ x :: Q).map flE) =
   Qbe lb n wK jl jL jJ jh we jR jV jU jT jS jW jx js jA ju jn jo jy jv jr jz jm jt jp jB jq wi wv wq wp wo ww wu K (IntKind.wrap .i64 (wy + 1)) (((insR x P).reverse ++ Q).map flE)
 | [], Q, k, hk, hm, h1 => by
  obtain ⟨k, rfl⟩ : ∃ m, k = m + 1 := ⟨k - 1, by simp at hk; omega⟩
  rw [QcH]
  refine stF (decF (by subst h0; simp)) ?_
  rw [Qc2]
  rfl
 | y :: P, Q, k, hk, hm, h1 => by
  obtain ⟨k, rfl⟩ : ∃ m, k = m + 1 := ⟨k - 1, by simp at hk; omega⟩
  have hL : (P.reverse.map flE).length = P.length := by simp
  have e0 : ((y :: P).reverse ++ x :: Q).map flE = P.reverse.map flE ++ flE y :: flE x :: Q.map flE := by simp
  have e1 : (P.reverse.map flE ++ flE y :: flE x :: Q.map flE)[0 + (((y :: P).length : Int)).toNat]? = some (flE x) := by
   rw [Qf9, List.getElem?_append_right (by simp)]; simp
  have w1 : IntKind.wrap .i64 (((y :: P).length : Int) - 1) = (P.length : Int) := by
   rw [List.length_cons]; exact Qw4 (by simp only [List.length_cons] at hm; omega)
  have e2 : (P.reverse.map flE ++ flE y :: flE x :: Q.map flE)[0 + ((P.length : Int)).toNat]? = some (flE y) := by
   rw [Qf9, List.getElem?_append_right (by simp)]; simp
  have b1 : (decide (0 ≤ (((y :: P).length : Nat) : Int)) && decide ((((y :: P).length : Nat) : Int) < ((jl : Nat) : Int))) = true := by
   rw [Bool.and_eq_true, decide_eq_true_eq, decide_eq_true_eq]; simp only [List.length_cons] at hm ⊢; omega
  have b2 : (decide (0 ≤ ((P.length : Nat) : Int)) && decide (((P.length : Nat) : Int) < ((jl : Nat) : Int))) = true := by
   rw [Bool.and_eq_true, decide_eq_true_eq, decide_eq_true_eq]; simp only [List.length_cons] at hm ⊢; omega
  rw [QcH, e0, w1]
  refine stT (decT (by subst h0; simp only [List.length_cons]; omega)) (stC b1 (stO _ e1 (stO _ rfl (stO _ rfl (stO _ rfl (stO _ rfl (stO _ rfl (stO _ rfl (stC b2 (stO _ e2 (stO _ rfl (stO _ rfl (stO _ rfl (stO _ rfl (stO _ rfl (stO _ rfl (stO _ (hc (x, y)) (stO _ (QaH ..) ?_))))))))))))))))))
  by_cases hlt : x.fr < y.fr
  ·have e3 : (setN (P.reverse.map flE ++ flE y :: flE x :: Q.map flE) (0 + (((y :: P).length : Int)).toNat) (flE y))[0 + ((P.length : Int)).toNat]? = some (flE y) := by
    have := QqR (P.reverse.map flE) (Q.map flE) (flE y) (flE x) (flE y)
    rw [hL] at this
    rw [Qf9, Qf9, List.length_cons, this, List.getElem?_append_right (by simp)]
    simp [setN]
   refine stT (decT (by simp [cmpI, hlt])) (stC b2 (stO _ e2 (stO _ rfl (stO _ rfl (stO _ rfl (stO _ rfl (stO _ rfl (stO _ rfl (stC b1 (stO _ e1 (stO _ rfl (stO _ rfl (stO _ rfl (stO _ rfl (stO _ rfl (stO _ rfl (stC b1 (stO _ e1 (stC rfl (stC b2 (stO _ e3 (stC rfl ?_))))))))))))))))))))))
   have e4 : setN (setN (P.reverse.map flE ++ flE y :: flE x :: Q.map flE) (0 + (((y :: P).length : Int)).toNat) (flE y)) (0 + ((P.length : Int)).toNat) (flE x) = (P.reverse ++ x :: y :: Q).map flE := by
    have := set2 (P.reverse.map flE) (Q.map flE) (flE y) (flE x) (flE y) (flE x)
    rw [hL] at this
    rw [Qf9, Qf9, List.length_cons, this]; simp
   have ih := QwT n jl jL jJ jh we jR jV jU jT jS jW jx js jA ju jn jo jy jv jr jz jm jt jp jB jq wi wv wq wp wo ww wu K wK wy h0 hc x P (y :: Q) k (by simp at hk; omega) (by simp at hm ⊢; omega) h1
   have e5 : (insR x (y :: P)).reverse ++ Q = (insR x P).reverse ++ y :: Q := by simp [insR, hlt]
   rw [e5]
   exact (congrArg _ e4).trans ih
  ·refine stF (decF (by unfold cmpI; rw [if_neg hlt]; split <;> omega)) ?_
   rw [Qc2]
   have e5 : (insR x (y :: P)).reverse ++ Q = P.reverse ++ y :: x :: Q := by simp [insR, hlt]
   rw [e5]
   simp
theorem Qu3 (n jl jL : Nat) (jJ jh we : Int) (jR : Bool) (jV : List (List CV)) (jU : Bool) (jT : List (List CV)) (jS : List UInt8) (jW jx js jA : Int) (ju : Bool) (jn : List (List CV)) (jo : Int) (jy : List UInt8) (jv jr jz jm jt : Int) (jp : List UInt8) (jB : Bool) (jq wi : List (List CV)) (wv wq wp wo ww wu : CV) (K : AV → List (List (Option (List AV))) → Option CV) (h0 : jh = 0) (hc : Cmp lb n) (hn : jl < n) (h3 : jJ = (jl : Int)) : ∀ (R S : List Fl) (k : Nat), R.length < k → jl = S.length + R.length → jl ≤ 1000 →
  Qbe lb n k jl jL jJ jh we jR jV jU jT jS jW jx js jA ju jn jo jy jv jr jz jm jt jp jB jq wi wv wq wp wo ww wu K (S.length : Int) ((S ++ R).map flE) =
   QbB lb n n K jl jL jJ jh jR jV jU jT jS jW jx js jA ju jn jo jy jv jr jz jm jt jp jB jq wv wq wp wo ww wu 20 jh we ((QeF S R).map flE)
 | [], S, k, hk, hm, h1 => by
  obtain ⟨k, rfl⟩ : ∃ m, k = m + 1 := ⟨k - 1, by simp at hk; omega⟩
  rw [QcG]
  refine stF (decF (by simp at hm; omega)) ?_
  rw [List.append_nil]; rfl
 | x :: R, S, k, hk, hm, h1 => by
  obtain ⟨k, rfl⟩ : ∃ m, k = m + 1 := ⟨k - 1, by simp at hk; omega⟩
  rw [QcG]
  refine stT (decT (by simp at hm; omega)) ?_
  have ih := Qu3 n jl jL jJ jh we jR jV jU jT jS jW jx js jA ju jn jo jy jv jr jz jm jt jp jB jq wi wv wq wp wo ww wu K h0 hc hn h3 R (insR x S.reverse).reverse k (by simp at hk; omega) (by simp [Qhs] at hm ⊢; omega) h1
  have w1 : IntKind.wrap .i64 ((S.length : Int) + 1) = (((insR x S.reverse).reverse.length : Nat) : Int) := by
   rw [QaB (by simp at hm; omega) (by simp at hm; omega)]; simp [Qhs]
  have st := QwT lb n jl jL jJ jh we jR jV jU jT jS jW jx js jA ju jn jo jy jv jr jz jm jt jp jB jq wi wv wq wp wo ww wu K k (S.length : Int) h0 hc x S.reverse R n (by simp at hm ⊢; omega) (by simp at hm ⊢; omega) h1
  rw [List.reverse_reverse, List.length_reverse, w1] at st
  exact st.trans ih
theorem Qu0 (n : Nat) (K : AV → List (List (Option (List AV))) → Option CV) (jl jL : Nat) (jJ : Int) (jR : Bool) (jV : List (List CV)) (jU : Bool) (jT : List (List CV)) (jS : List UInt8) (jW jx js jA : Int) (ju : Bool) (jn : List (List CV)) (jo : Int) (jy : List UInt8) (jv jr jz jm jt : Int) (jp : List UInt8) (jB : Bool) (jq : List (List CV)) (wv wq wp wo ww wu : CV) (jh : Int) (h0 : jh = 0) (hc : Cmp lb n) (hn : jl < n) (h3 : jJ = (jl : Int)) (R : List Fl) (x : Fl) (hm : jl = R.length + 1) (h1 : jl ≤ 19) :
  Qb5 lb n n K jl jL jJ jR jV jU jT jS jW jx js jA ju jn jo jy jv jr jz jm jt jp jB jq wv wq wp wo ww wu jh 20 ((x :: R).map flE) =
   QbB lb n n K jl jL jJ jh jR jV jU jT jS jW jx js jA ju jn jo jy jv jr jz jm jt jp jB jq wv wq wp wo ww wu 20 jh 20 ((QeF [x] R).map flE) := by
 obtain ⟨m, rfl⟩ : ∃ m, n = m + 1 := ⟨n - 1, by omega⟩
 have w : IntKind.wrap .i64 (jh + 1) = (([x].length : Nat) : Int) := by subst h0; rfl
 rw [Qew]
 refine stF (decF (by omega)) ?_
 rw [QeS, w]
 exact Qu3 lb (m + 1) _ _ _ _ _ _ _ _ _ _ _ _ _ _ _ _ _ _ _ _ _ _ _ _ _ _ _ _ _ _ _ _ _ _ h0 hc hn h3 R [x] (m + 1) (by omega) (by simp; omega) (by omega)
theorem Qu4 (n jl jL : Nat) (jJ jh we : Int) (jR : Bool) (jV : List (List CV)) (jU : Bool) (jT : List (List CV)) (jS : List UInt8) (jW jx js jA : Int) (ju : Bool) (jn : List (List CV)) (jo : Int) (jy : List UInt8) (jv jr jz jm jt : Int) (jp : List UInt8) (jB : Bool) (jq wi : List (List CV)) (K : AV → List (List (Option (List AV))) → Option CV) (wK : Nat) (wy : Int) (h0 : jh = 0) (hc : Cmp lb n) (x : Fl) : ∀ (P Q : List Fl) (k : Nat), P.length < k → jl = P.length + 1 + Q.length → jl ≤ 1000 →
  Qbq lb n k jl jL jJ jh we jR jV jU jT jS jW jx js jA ju jn jo jy jv jr jz jm jt jp jB jq wi K wK wy (P.length : Int) ((P.reverse ++ x :: Q).map flE) =
   Qba lb n wK jl jL jJ jh we jR jV jU jT jS jW jx js jA ju jn jo jy jv jr jz jm jt jp jB jq wi K (IntKind.wrap .i64 (wy + 1)) (((insR x P).reverse ++ Q).map flE)
 | [], Q, k, hk, hm, h1 => by
  obtain ⟨k, rfl⟩ : ∃ m, k = m + 1 := ⟨k - 1, by simp at hk; omega⟩
  rw [Qcw]
  refine stF (decF (by subst h0; simp)) ?_
  rw [QcF]
  rfl
 | y :: P, Q, k, hk, hm, h1 => by
  obtain ⟨k, rfl⟩ : ∃ m, k = m + 1 := ⟨k - 1, by simp at hk; omega⟩
  have hL : (P.reverse.map flE).length = P.length := by simp
  have e0 : ((y :: P).reverse ++ x :: Q).map flE = P.reverse.map flE ++ flE y :: flE x :: Q.map flE := by simp
  have e1 : (P.reverse.map flE ++ flE y :: flE x :: Q.map flE)[0 + (((y :: P).length : Int)).toNat]? = some (flE x) := by
   rw [Qf9, List.getElem?_append_right (by simp)]; simp
  have w1 : IntKind.wrap .i64 (((y :: P).length : Int) - 1) = (P.length : Int) := by
   rw [List.length_cons]; exact Qw4 (by simp only [List.length_cons] at hm; omega)
  have e2 : (P.reverse.map flE ++ flE y :: flE x :: Q.map flE)[0 + ((P.length : Int)).toNat]? = some (flE y) := by
   rw [Qf9, List.getElem?_append_right (by simp)]; simp
  have b1 : (decide (0 ≤ (((y :: P).length : Nat) : Int)) && decide ((((y :: P).length : Nat) : Int) < ((jl : Nat) : Int))) = true := by
   rw [Bool.and_eq_true, decide_eq_true_eq, decide_eq_true_eq]; simp only [List.length_cons] at hm ⊢; omega
  have b2 : (decide (0 ≤ ((P.length : Nat) : Int)) && decide (((P.length : Nat) : Int) < ((jl : Nat) : Int))) = true := by
   rw [Bool.and_eq_true, decide_eq_true_eq, decide_eq_true_eq]; simp only [List.length_cons] at hm ⊢; omega
  rw [Qcw, e0, w1]
  refine stT (decT (by subst h0; simp only [List.length_cons]; omega)) (stC b1 (stO _ e1 (stO _ rfl (stO _ rfl (stO _ rfl (stO _ rfl (stO _ rfl (stO _ rfl (stC b2 (stO _ e2 (stO _ rfl (stO _ rfl (stO _ rfl (stO _ rfl (stO _ rfl (stO _ rfl (stO _ (hc (x, y)) (stO _ (QaH ..) ?_))))))))))))))))))
  by_cases hlt : x.fr < y.fr
  ·have e3 : (setN (P.reverse.map flE ++ flE y :: flE x :: Q.map flE) (0 + (((y :: P).length : Int)).toNat) (flE y))[0 + ((P.length : Int)).toNat]? = some (flE y) := by
    have := QqR (P.reverse.map flE) (Q.map flE) (flE y) (flE x) (flE y)
    rw [hL] at this
    rw [Qf9, Qf9, List.length_cons, this, List.getElem?_append_right (by simp)]
    simp [setN]
   refine stT (decT (by simp [cmpI, hlt])) (stC b2 (stO _ e2 (stO _ rfl (stO _ rfl (stO _ rfl (stO _ rfl (stO _ rfl (stO _ rfl (stC b1 (stO _ e1 (stO _ rfl (stO _ rfl (stO _ rfl (stO _ rfl (stO _ rfl (stO _ rfl (stC b1 (stO _ e1 (stC rfl (stC b2 (stO _ e3 (stC rfl ?_))))))))))))))))))))))
   have e4 : setN (setN (P.reverse.map flE ++ flE y :: flE x :: Q.map flE) (0 + (((y :: P).length : Int)).toNat) (flE y)) (0 + ((P.length : Int)).toNat) (flE x) = (P.reverse ++ x :: y :: Q).map flE := by
    have := set2 (P.reverse.map flE) (Q.map flE) (flE y) (flE x) (flE y) (flE x)
    rw [hL] at this
    rw [Qf9, Qf9, List.length_cons, this]; simp
   have ih := Qu4 n jl jL jJ jh we jR jV jU jT jS jW jx js jA ju jn jo jy jv jr jz jm jt jp jB jq wi K wK wy h0 hc x P (y :: Q) k (by simp at hk; omega) (by simp at hm ⊢; omega) h1
   have e5 : (insR x (y :: P)).reverse ++ Q = (insR x P).reverse ++ y :: Q := by simp [insR, hlt]
   rw [e5]
   exact (congrArg _ e4).trans ih
  ·refine stF (decF (by unfold cmpI; rw [if_neg hlt]; split <;> omega)) ?_
   rw [QcF]
   have e5 : (insR x (y :: P)).reverse ++ Q = P.reverse ++ y :: x :: Q := by simp [insR, hlt]
   rw [e5]
   simp
theorem Quc (n jl jL : Nat) (jJ jh we : Int) (jR : Bool) (jV : List (List CV)) (jU : Bool) (jT : List (List CV)) (jS : List UInt8) (jW jx js jA : Int) (ju : Bool) (jn : List (List CV)) (jo : Int) (jy : List UInt8) (jv jr jz jm jt : Int) (jp : List UInt8) (jB : Bool) (jq wi : List (List CV)) (K : AV → List (List (Option (List AV))) → Option CV) (h0 : jh = 0) (hc : Cmp lb n) (hn : jl < n) (h3 : jJ = (jl : Int)) : ∀ (R S : List Fl) (k : Nat), R.length < k → jl = S.length + R.length → jl ≤ 1000 →
  Qba lb n k jl jL jJ jh we jR jV jU jT jS jW jx js jA ju jn jo jy jv jr jz jm jt jp jB jq wi K (S.length : Int) ((S ++ R).map flE) =
   Qbp lb n n K jl jL jJ jh jR jV jU jT jS jW jx js jA ju jn jo jy jv jr jz jm jt jp jB jq 20 jh we ((QeF S R).map flE)
 | [], S, k, hk, hm, h1 => by
  obtain ⟨k, rfl⟩ : ∃ m, k = m + 1 := ⟨k - 1, by simp at hk; omega⟩
  rw [Qcx]
  refine stF (decF (by simp at hm; omega)) ?_
  rw [List.append_nil]; rfl
 | x :: R, S, k, hk, hm, h1 => by
  obtain ⟨k, rfl⟩ : ∃ m, k = m + 1 := ⟨k - 1, by simp at hk; omega⟩
  rw [Qcx]
  refine stT (decT (by simp at hm; omega)) ?_
  have ih := Quc n jl jL jJ jh we jR jV jU jT jS jW jx js jA ju jn jo jy jv jr jz jm jt jp jB jq wi K h0 hc hn h3 R (insR x S.reverse).reverse k (by simp at hk; omega) (by simp [Qhs] at hm ⊢; omega) h1
  have w1 : IntKind.wrap .i64 ((S.length : Int) + 1) = (((insR x S.reverse).reverse.length : Nat) : Int) := by
   rw [QaB (by simp at hm; omega) (by simp at hm; omega)]; simp [Qhs]
  have st := Qu4 lb n jl jL jJ jh we jR jV jU jT jS jW jx js jA ju jn jo jy jv jr jz jm jt jp jB jq wi K k (S.length : Int) h0 hc x S.reverse R n (by simp at hm ⊢; omega) (by simp at hm ⊢; omega) h1
  rw [List.reverse_reverse, List.length_reverse, w1] at st
  exact st.trans ih
theorem Qxt (n : Nat) (K : AV → List (List (Option (List AV))) → Option CV) (jl jL : Nat) (jJ : Int) (jR : Bool) (jV : List (List CV)) (jU : Bool) (jT : List (List CV)) (jS : List UInt8) (jW jx js jA : Int) (ju : Bool) (jn : List (List CV)) (jo : Int) (jy : List UInt8) (jv jr jz jm jt : Int) (jp : List UInt8) (jB : Bool) (jq : List (List CV)) (jh : Int) (h0 : jh = 0) (hc : Cmp lb n) (hn : jl < n) (h3 : jJ = (jl : Int)) (R : List Fl) (x : Fl) (hm : jl = R.length + 1) (h1 : jl ≤ 19) :
  QbR lb n n K jl jL jJ jR jV jU jT jS jW jx js jA ju jn jo jy jv jr jz jm jt jp jB jq jh 20 ((x :: R).map flE) =
   Qbp lb n n K jl jL jJ jh jR jV jU jT jS jW jx js jA ju jn jo jy jv jr jz jm jt jp jB jq 20 jh 20 ((QeF [x] R).map flE) := by
 obtain ⟨m, rfl⟩ : ∃ m, n = m + 1 := ⟨n - 1, by omega⟩
 have w : IntKind.wrap .i64 (jh + 1) = (([x].length : Nat) : Int) := by subst h0; rfl
 rw [Qd9]
 refine stF (decF (by omega)) ?_
 rw [Qev, w]
 exact Quc lb (m + 1) _ _ _ _ _ _ _ _ _ _ _ _ _ _ _ _ _ _ _ _ _ _ _ _ _ _ _ _ h0 hc hn h3 R [x] (m + 1) (by omega) (by simp; omega) (by omega)
end Go.Proofs
set_option linter.unusedSimpArgs false
set_option linter.unusedVariables false
namespace Go.Proofs
open Go.Am
variable (lb : Nat)
def QiU (f : Fl) (x : P3) : Fl := { f with fr := x.1, to := x.2.1, days := x.2.2 }
def wF (f : Fl) (r : Rv) : List P3 := Qch f.fr f.to f.days r.fr r.to r.days
def QaW (f : Fl) (r : Rv) : List Fl := (wF f r).map (QiU f)
def insF (g : Fl) : List Fl → List Fl
 | [] => [g]
 | y :: t => if g.fr < y.fr then g :: y :: t else y :: insF g t
def idxF (g : Fl) : List Fl → Nat
 | [] => 0
 | y :: t => if g.fr < y.fr then 0 else idxF g t + 1
theorem Qny (g : Fl) : ∀ P : List Fl, (insF g P).length = P.length + 1
 | [] => rfl
 | y :: t => by
  unfold insF
  split
  ·simp
  ·simp [Qny g t]
theorem Qva (g : Fl) : ∀ A B : List Fl, (∀ y ∈ A, y.fr ≤ g.fr) → (∀ y ∈ B, g.fr < y.fr) → insF g (A ++ B) = A ++ g :: B
 | [], [], _, _ => rfl
 | [], y :: B, _, hB => by
  show insF g (y :: B) = _
  unfold insF
  rw [if_pos (hB y (by simp))]; rfl
 | y :: A, B, hA, hB => by
  show insF g (y :: (A ++ B)) = _
  have h := hA y (by simp)
  unfold insF
  rw [if_neg (by omega), Qva g A B (fun z hz => hA z (by simp [hz])) hB]; rfl
theorem QpD (g : Fl) (M : List Fl) : ∀ L : List Fl, (∀ y ∈ L, g.fr < y.fr) → insR g (L ++ M) = L ++ insR g M
 | [], _ => rfl
 | y :: L, h => by
  show (if g.fr < y.fr then y :: insR g (L ++ M) else g :: y :: (L ++ M)) = _
  rw [if_pos (h y (by simp)), QpD g M L (fun z hz => h z (by simp [hz]))]; rfl
theorem Qtq (g : Fl) : ∀ M : List Fl, (∀ y ∈ M, y.fr ≤ g.fr) → insR g M = g :: M
 | [], _ => rfl
 | y :: M, h => by
  have := h y (by simp)
  unfold insR
  rw [if_neg (by omega)]
theorem QwB (g : Fl) : ∀ P : List Fl, P.Pairwise (fun a b => a.fr ≤ b.fr) → ∃ A B, P = A ++ B ∧ (∀ y ∈ A, y.fr ≤ g.fr) ∧ ∀ y ∈ B, g.fr < y.fr
 | [], _ => ⟨[], [], rfl, by simp, by simp⟩
 | y :: t, h => by
  rw [List.pairwise_cons] at h
  by_cases hy : g.fr < y.fr
  ·refine ⟨[], y :: t, rfl, by simp, fun z hz => ?_⟩
   rcases List.mem_cons.1 hz with rfl | hz
   ·exact hy
   ·have := h.1 z hz; omega
  ·obtain ⟨A, B, e, hA, hB⟩ := QwB g t h.2
   refine ⟨y :: A, B, by rw [e]; rfl, fun z hz => ?_, hB⟩
   rcases List.mem_cons.1 hz with rfl | hz
   ·omega
   ·exact hA z hz
theorem Qwy (g : Fl) (P : List Fl) (h : P.Pairwise (fun a b => a.fr ≤ b.fr)) : (insR g P.reverse).reverse = insF g P := by
 obtain ⟨A, B, rfl, hA, hB⟩ := QwB g P h
 rw [Qva g A B hA hB, List.reverse_append, QpD g _ B.reverse (fun y hy => hB y (by simpa using hy)), Qtq g _ (fun y hy => hA y (by simpa using hy))]
 simp
theorem QmM : ∀ (R S T : List Fl), (S ++ R).Pairwise (fun a b => a.fr ≤ b.fr) → QeF S (R ++ T) = QeF (S ++ R) T
 | [], S, T, _ => by simp
 | x :: R, S, T, h => by
  have hS : ∀ y ∈ S, y.fr ≤ x.fr := fun y hy => (List.pairwise_append.1 h).2.2 y hy x (by simp)
  show QeF (insR x S.reverse).reverse (R ++ T) = _
  rw [Qtq x _ (fun y hy => hS y (by simpa using hy))]
  have e : (x :: S.reverse).reverse = S ++ [x] := by simp
  rw [e, QmM R (S ++ [x]) T (by simpa using h)]
  simp
def QsK : List Fl → List Fl
 | [] => []
 | x :: R => QeF [x] R
theorem QwA (P : List Fl) (h : P.Pairwise (fun a b => a.fr ≤ b.fr)) : QsK P = P := by
 cases P with
 | nil => rfl
 | cons x R =>
  have := QmM R [x] [] (by simpa using h)
  rw [List.append_nil] at this
  show QeF [x] R = _
  rw [this]; rfl
theorem Qwl (P : List Fl) (g : Fl) (h : P.Pairwise (fun a b => a.fr ≤ b.fr)) : QsK (P ++ [g]) = insF g P := by
 cases P with
 | nil => rfl
 | cons x R =>
  have := QmM R [x] [g] (by simpa using h)
  show QeF [x] (R ++ [g]) = _
  rw [this]
  exact Qwy g (x :: R) h
theorem QxV {l : List Int} {x : P3} (h : ofF l = some x) : x.1 ∈ l := by
 cases l with
 | nil => cases h
 | cons a r => cases h; simp
theorem Qwx (f : Fl) (r : Rv) : (QaW f r).Pairwise (fun a b => a.fr ≤ b.fr) := by
 have key : (wF f r).Pairwise (fun a b => a.1 ≤ b.1) := by
  unfold wF Qch QhW
  split
  ·rename_i h
   obtain ⟨b0, b1, b2, b3, b4, b5⟩ := Qc8 h
   have m1 : ∀ (lo hi : Int) (x : P3), ofF ((Qar f.fr f.to f.days).filter (Qfi lo hi r.fr r.to r.days)) = some x → lo ≤ x.1 ∧ x.1 ≤ hi := fun lo hi x hx => by
    have := (List.mem_filter.1 (QxV hx)).2
    unfold Qfi at this
    simp only [Bool.and_eq_true, decide_eq_true_eq] at this
    omega
   have a1 := m1 0 (r.fr - 1)
   have a2 := m1 r.fr r.to
   have a3 := m1 (r.to + 1) 36525
   simp only [List.filterMap_cons, List.filterMap_nil]
   generalize ofF ((Qar f.fr f.to f.days).filter (Qfi 0 (r.fr - 1) r.fr r.to r.days)) = o1 at a1
   generalize ofF ((Qar f.fr f.to f.days).filter (Qfi r.fr r.to r.fr r.to r.days)) = o2 at a2
   generalize ofF ((Qar f.fr f.to f.days).filter (Qfi (r.to + 1) 36525 r.fr r.to r.days)) = o3 at a3
   cases o1 with
   | none =>
    cases o2 with
    | none => cases o3 <;> simp
    | some y =>
     have c2 := a2 y rfl
     cases o3 with
     | none => simp
     | some z => have c3 := a3 z rfl; simp; omega
   | some x =>
    have c1 := a1 x rfl
    cases o2 with
    | none =>
     cases o3 with
     | none => simp
     | some z => have c3 := a3 z rfl; simp; omega
    | some y =>
     have c2 := a2 y rfl
     cases o3 with
     | none => simp; omega
     | some z => have c3 := a3 z rfl; simp; omega
  ·simp only [List.filterMap_cons, List.filterMap_nil]
   cases ofF (Qar f.fr f.to f.days) <;> simp
 unfold QaW
 rw [List.pairwise_map]
 exact key
theorem QhU (f : Fl) (r : Rv) : (wF f r).length ≤ 3 := by
 unfold wF Qch
 exact Nat.le_trans (List.length_filterMap_le _ _) (QwF f.fr f.to f.days r.fr r.to r.days).1
def wcv (l : List P3) : CV := .list l.isEmpty (pl3 l)
def QdI (f : Fl) (r : Rv) (q : P3) : List Fl × Int :=
 if r.kind = 2 then (QaW f r, -1) else (insF (QaE r f q) (QaW f r), (idxF (QaE r f q) (QaW f r) : Nat))
end Go.Proofs
set_option linter.unusedSimpArgs false
set_option linter.unusedVariables false
set_option maxRecDepth 100000
namespace Go.Proofs
open Go.Am
variable (lb : Nat)
theorem QxR (lb n : Nat) : QpC Tryz.prog KK (L lb) (n + 30) Qao [.list true [], .fn Qac] = some (.tup []) := by kernel_rfl
theorem QsY : Ret lb Qao [.list true [], .fn Qac] (.tup []) := Evt.from 30 fun n => by
 show Qdh Tryz.prog KK (L lb) (n + 30) Qao _ = _
 rw [Qtk]
 exact QxR lb n
def Qb2 (p : Pc) (f : Fl) (r : Rv) (q : P3) : List Fl × Int :=
 if r.kind = 2 then (QaW f r, 0) else match Qaz p (QaE r f q) with
  | e :: _ => ([], e.1)
  | [] => (insF (QaE r f q) (QaW f r), 0)
def Qeq (x : List Fl × Int) : CV := .tup [.list x.1.isEmpty (x.1.map flE), .int .i64 x.2]
theorem Qxk (n : Nat) (p : Pc) (f : Fl) (r : Rv) (hc : Cmp lb n) (P : List Fl) (g : Fl) (hP : P.length ≤ 10) (hn : P.length + 1 < n) (hP0 : P ≠ []) (k6 : CV) :
  Qbl lb n (Qed lb n P.length p.an (p.aps.map apcv) p.dn (p.dis.map dicv) f.car f.num f.fr f.to f.days f.ln (f.legs.map lgcv) r.kind r.car r.num r.fr r.to r.days r.min r.eq r.ln (r.legs.map lgcv) (P.map flE) (.str g.car) (.int .i64 g.num) (.int .i64 g.fr) (.int .i64 g.to) (.int .i64 g.days) (.list g.ln (g.legs.map lgcv)) k6) (P.length + 1) (P.length + 1) ((P.length + 1 : Nat) : Int) p.an (p.aps.map apcv) p.dn (p.dis.map dicv) f.car f.num f.fr f.to f.days f.ln (f.legs.map lgcv) r.kind r.car r.num r.fr r.to r.days r.min r.eq r.ln (r.legs.map lgcv) (P.map flE ++ [[.str g.car, .int .i64 g.num, .int .i64 g.fr, .int .i64 g.to, .int .i64 g.days, .list g.ln (g.legs.map lgcv)]]) (.str g.car) (.int .i64 g.num) (.int .i64 g.fr) (.int .i64 g.to) (.int .i64 g.days) (.list g.ln (g.legs.map lgcv)) =
   some (.tup [.list false ((QsK (P ++ [g])).map flE), .int .i64 0]) := by
 obtain ⟨x, R, rfl⟩ : ∃ x R, P = x :: R := by cases P with | nil => exact absurd rfl hP0 | cons x R => exact ⟨x, R, rfl⟩
 obtain ⟨m, rfl⟩ : ∃ m, n = m + 1 := ⟨n - 1, by omega⟩
 rw [Qda]
 have st := Qu0 lb (m + 1) (K := Qed lb (m + 1) (x :: R).length p.an (p.aps.map apcv) p.dn (p.dis.map dicv) f.car f.num f.fr f.to f.days f.ln (f.legs.map lgcv) r.kind r.car r.num r.fr r.to r.days r.min r.eq r.ln (r.legs.map lgcv) ((x :: R).map flE) (.str g.car) (.int .i64 g.num) (.int .i64 g.fr) (.int .i64 g.to) (.int .i64 g.days) (.list g.ln (g.legs.map lgcv)) k6)
  ((x :: R).length + 1) ((x :: R).length + 1) (((x :: R).length + 1 : Nat) : Int) p.an (p.aps.map apcv) p.dn (p.dis.map dicv) f.car f.num f.fr f.to f.days f.ln (f.legs.map lgcv) r.kind r.car r.num r.fr r.to r.days r.min r.eq r.ln (r.legs.map lgcv) (.str g.car) (.int .i64 g.num) (.int .i64 g.fr) (.int .i64 g.to) (.int .i64 g.days) (.list g.ln (g.legs.map lgcv)) 0 rfl hc (by omega) rfl (R ++ [g]) x (by simp) (by simp at hP ⊢; omega)
 have e : (x :: R).map flE ++ [[CV.str g.car, .int .i64 g.num, .int .i64 g.fr, .int .i64 g.to, .int .i64 g.days, .list g.ln (g.legs.map lgcv)]] = (x :: (R ++ [g])).map flE := by simp [flE]
 rw [e, st, QcE]
 refine stF (decF (by simp at hP ⊢; omega)) ?_
 rw [Qk8]
 have hl : (QeF [x] (R ++ [g])).length = (x :: R).length + 1 := by rw [Qml]; simp; omega
 refine stC (decT (by rw [List.length_map, hl]; omega)) ?_
 rw [List.drop_zero, List.take_of_length_le (by rw [List.length_map, hl]; exact Nat.le_refl _)]
 rfl
 all_goals exact false
theorem QxK (n : Nat) (p : Pc) (f : Fl) (r : Rv) (hc : Cmp lb n) (P : List Fl) (hP : P.length ≤ 10) (hn : P.length + 1 < n) (hP0 : P ≠ []) :
  Qb6 lb n (Qec lb n P.length P.length p.an (p.aps.map apcv) p.dn (p.dis.map dicv) f.car f.num f.fr f.to f.days f.ln (f.legs.map lgcv) r.kind r.car r.num r.fr r.to r.days r.min r.eq r.ln (r.legs.map lgcv) (P.map flE)) P.length P.length ((P.length : Nat) : Int) p.an (p.aps.map apcv) p.dn (p.dis.map dicv) f.car f.num f.fr f.to f.days f.ln (f.legs.map lgcv) r.kind r.car r.num r.fr r.to r.days r.min r.eq r.ln (r.legs.map lgcv) (P.map flE) =
   some (.tup [.list false ((QsK P).map flE), .int .i64 0]) := by
 obtain ⟨x, R, rfl⟩ : ∃ x R, P = x :: R := by cases P with | nil => exact absurd rfl hP0 | cons x R => exact ⟨x, R, rfl⟩
 obtain ⟨m, rfl⟩ : ∃ m, n = m + 1 := ⟨n - 1, by omega⟩
 rw [QeT]
 have st := Qxt lb (m + 1) (K := Qec lb (m + 1) (x :: R).length (x :: R).length p.an (p.aps.map apcv) p.dn (p.dis.map dicv) f.car f.num f.fr f.to f.days f.ln (f.legs.map lgcv) r.kind r.car r.num r.fr r.to r.days r.min r.eq r.ln (r.legs.map lgcv) ((x :: R).map flE))
  (x :: R).length (x :: R).length (((x :: R).length : Nat) : Int) p.an (p.aps.map apcv) p.dn (p.dis.map dicv) f.car f.num f.fr f.to f.days f.ln (f.legs.map lgcv) r.kind r.car r.num r.fr r.to r.days r.min r.eq r.ln (r.legs.map lgcv) 0 rfl hc (by omega) rfl R x (by simp) (by simp at hP ⊢; omega)
 rw [st, Qea]
 refine stF (decF (by simp at hP ⊢; omega)) ?_
 rw [QlF]
 have hl : (QeF [x] R).length = (x :: R).length := by rw [Qml]; simp; omega
 refine stC (decT (by rw [List.length_map, hl]; omega)) ?_
 rw [List.drop_zero, List.take_of_length_le (by rw [List.length_map, hl]; omega)]
 rfl
 all_goals exact false
theorem Qxm (n : Nat) (p : Pc) (f : Fl) (r : Rv) (hc : Cmp lb n) (g : Fl) (hn : 2 < n) (kZ : CV) :
  Qbl lb n (Qel lb n p.an (p.aps.map apcv) p.dn (p.dis.map dicv) f.car f.num f.fr f.to f.days f.ln (f.legs.map lgcv) r.kind r.car r.num r.fr r.to r.days r.min r.eq r.ln (r.legs.map lgcv) (.str g.car) (.int .i64 g.num) (.int .i64 g.fr) (.int .i64 g.to) (.int .i64 g.days) (.list g.ln (g.legs.map lgcv)) kZ) 1 1 1 p.an (p.aps.map apcv) p.dn (p.dis.map dicv) f.car f.num f.fr f.to f.days f.ln (f.legs.map lgcv) r.kind r.car r.num r.fr r.to r.days r.min r.eq r.ln (r.legs.map lgcv) [[.str g.car, .int .i64 g.num, .int .i64 g.fr, .int .i64 g.to, .int .i64 g.days, .list g.ln (g.legs.map lgcv)]] (.str g.car) (.int .i64 g.num) (.int .i64 g.fr) (.int .i64 g.to) (.int .i64 g.days) (.list g.ln (g.legs.map lgcv)) =
   some (.tup [.list false ([g].map flE), .int .i64 0]) := by
 obtain ⟨m, rfl⟩ : ∃ m, n = m + 1 := ⟨n - 1, by omega⟩
 rw [Qda]
 have st := Qu0 lb (m + 1) (K := Qel lb (m + 1) p.an (p.aps.map apcv) p.dn (p.dis.map dicv) f.car f.num f.fr f.to f.days f.ln (f.legs.map lgcv) r.kind r.car r.num r.fr r.to r.days r.min r.eq r.ln (r.legs.map lgcv) (.str g.car) (.int .i64 g.num) (.int .i64 g.fr) (.int .i64 g.to) (.int .i64 g.days) (.list g.ln (g.legs.map lgcv)) kZ)
  1 1 1 p.an (p.aps.map apcv) p.dn (p.dis.map dicv) f.car f.num f.fr f.to f.days f.ln (f.legs.map lgcv) r.kind r.car r.num r.fr r.to r.days r.min r.eq r.ln (r.legs.map lgcv) (.str g.car) (.int .i64 g.num) (.int .i64 g.fr) (.int .i64 g.to) (.int .i64 g.days) (.list g.ln (g.legs.map lgcv)) 0 rfl hc (by omega) rfl [] g (by simp) (by omega)
 have e : [[CV.str g.car, .int .i64 g.num, .int .i64 g.fr, .int .i64 g.to, .int .i64 g.days, .list g.ln (g.legs.map lgcv)]] = (g :: []).map flE := by simp [flE]
 rw [e, st, QcE]
 refine stF (decF (by omega)) ?_
 rw [Qk2]
 exact stC rfl rfl
 all_goals exact false
theorem Qx1 (n : Nat) (p : Pc) (f : Fl) (r : Rv) (q : P3) (hc : Cmp lb n) (hn : 2 < n) (hw : QaW f r = [])
  (h1 : r.kind ≠ 2 → C lb n Qaq [flcv f, rvcv r] = some (flcv (QaE r f q)))
  (h2 : C lb n Qah [pcv p, flcv (QaE r f q)] = some (QbW (Qaz p (QaE r f q))))
  (h3 : C lb n Qao [.list true [], .fn Qac] = some (.tup [])) :
  QfR lb n p.an (p.aps.map apcv) p.dn (p.dis.map dicv) f.car f.num f.fr f.to f.days f.ln (f.legs.map lgcv) r.kind r.car r.num r.fr r.to r.days r.min r.eq r.ln (r.legs.map lgcv) = some (Qeq (Qb2 p f r q)) := by
 rw [Qlp]
 unfold Qb2
 by_cases hk : r.kind = 2
 ·rw [if_pos hk, hw]
  exact stF (bneF hk) (stO _ h3 rfl)
 ·rw [if_neg hk, hw]
  have h1 := h1 hk
  generalize QaE r f q = g at h1 h2
  refine stT (bneT hk) (stO _ h1 (stO _ rfl (stC rfl (stO _ rfl (stO _ rfl (stO _ rfl (stO _ rfl (stO _ rfl (stO _ rfl (stO _ h2 (stO _ rfl ?_)))))))))))
  cases hch : Qaz p g with
  | nil => exact stF (decF (by simp)) (Qxm lb n p f r hc g hn _)
  | cons e t => exact stT (decT (by simp)) (stO _ rfl (stO _ rfl (stC rfl (stO _ rfl rfl))))
theorem Qxl (n : Nat) (p : Pc) (f : Fl) (r : Rv) (q : P3) (hc : Cmp lb n) (hn : 10 < n) (hw : QaW f r ≠ [])
  (h1 : r.kind ≠ 2 → C lb n Qaq [flcv f, rvcv r] = some (flcv (QaE r f q)))
  (h2 : C lb n Qah [pcv p, flcv (QaE r f q)] = some (QbW (Qaz p (QaE r f q)))) :
  Qei lb n p.an (p.aps.map apcv) p.dn (p.dis.map dicv) f.car f.num f.fr f.to f.days f.ln (f.legs.map lgcv) r.kind r.car r.num r.fr r.to r.days r.min r.eq r.ln (r.legs.map lgcv) (QaW f r).length (QaW f r).length ((QaW f r).map flE) = some (Qeq (Qb2 p f r q)) := by
 have hlen : (QaW f r).length ≤ 3 := by unfold QaW; rw [List.length_map]; exact QhU f r
 have asc := Qwx f r
 rw [Qlo]
 unfold Qb2
 generalize QaW f r = P at hw hlen asc
 by_cases hk : r.kind = 2
 ·rw [if_pos hk]
  have z := QxK lb n p f r hc P (by omega) (by omega) hw
  rw [QwA P asc] at z
  refine stF (bneF hk) (z.trans ?_)
  have : P.isEmpty = false := by simpa using hw
  unfold Qeq; rw [this]
 ·rw [if_neg hk]
  have h1 := h1 hk
  generalize QaE r f q = g at h1 h2
  refine stT (bneT hk) (stO _ h1 (stO _ rfl (stC rfl (stO _ rfl (stO _ rfl (stO _ rfl (stO _ rfl (stO _ rfl (stO _ rfl (stO _ h2 (stO _ rfl ?_)))))))))))
  cases hch : Qaz p g with
  | nil =>
   have z := Qxk lb n p f r hc P g (by omega) (by omega) hw (QbW [])
   rw [Qwl P g asc] at z
   refine stF (decF (by simp)) (stC (decT (by simp)) (stC (Qce (by omega) (by omega)) (z.trans ?_)))
   have : (insF g P).isEmpty = false := by
    cases h : insF g P with
    | nil => have := Qny g P; rw [h] at this; simp at this
    | cons => rfl
   unfold Qeq; rw [this]
  | cons e t => exact stT (decT (by simp)) (stO _ rfl (stO _ rfl (stC rfl (stO _ rfl rfl))))
theorem QtF (n : Nat) (p : Pc) (f : Fl) (r : Rv) (q : P3) (hw : QaW f r ≠ [])
  (hJ : Qei lb n p.an (p.aps.map apcv) p.dn (p.dis.map dicv) f.car f.num f.fr f.to f.days f.ln (f.legs.map lgcv) r.kind r.car r.num r.fr r.to r.days r.min r.eq r.ln (r.legs.map lgcv) (QaW f r).length (QaW f r).length ((QaW f r).map flE) = some (Qeq (Qb2 p f r q))) : ∀ (t u : List P3) (k : Nat), u ++ t = wF f r → u ≠ [] → t.length < k →
  Qej lb n k p.an (p.aps.map apcv) p.dn (p.dis.map dicv) f.car f.num f.fr f.to f.days f.ln (f.legs.map lgcv) r.kind r.car r.num r.fr r.to r.days r.min r.eq r.ln (r.legs.map lgcv) (wcv (wF f r)) ((wF f r).isEmpty, pl3 (wF f r)) u.length u.length (u.length : Int) ((u.map (QiU f)).map flE) = some (Qeq (Qb2 p f r q))
 | [], u, k, h, hu, hk => by
  obtain ⟨k, rfl⟩ : ∃ m, k = m + 1 := ⟨k - 1, by simp at hk; omega⟩
  have hp : u = wF f r := by simpa using h
  rw [QfT]
  refine stF (decF (by rw [← hp]; simp [pl3])) ?_
  have e : u.length = (QaW f r).length := by rw [hp]; simp [QaW]
  rw [e, hp]
  exact hJ
 | x :: t, u, k, h, hu, hk => by
  obtain ⟨k, rfl⟩ : ∃ m, k = m + 1 := ⟨k - 1, by simp at hk; omega⟩
  have h3 := QhU f r
  have hlen : (wF f r).length = u.length + (t.length + 1) := by rw [← h]; simp
  have hw1 : IntKind.wrap .i64 ((u.length : Int) + 1) = ((u ++ [x]).length : Int) := by rw [QaB (by omega) (by omega)]; simp
  have hg : (pl3 (wF f r))[u.length]? = some (pcv3 x) := by rw [← h]; simp [pl3]
  have ih := QtF n p f r q hw hJ t (u ++ [x]) k (by rw [← h]; simp) (by simp) (by simp at hk; omega)
  rw [QfT]
  refine stT (decT (by simp [pl3]; omega)) (stO _ rfl (stO _ (Qa5 hg) (stC rfl (stO _ rfl (stO _ rfl (stO _ rfl (stC (decT (by simp)) (stC (Qce (by omega) (by omega)) ?_))))))))
  rw [hw1]
  have e1 : (u ++ [x]).length = u.length + 1 := by simp
  have e2 : ((u ++ [x]).map (QiU f)).map flE = (u.map (QiU f)).map flE ++ [flE (QiU f x)] := by simp
  rw [e2] at ih
  rw [e1] at ih ⊢
  exact ih
theorem Qm4 (p : Pc) (hp : Qcg p) (f : Fl) (r : Rv) (q : P3) (hl : f.legs.length ≤ 1000) (hk : r.kind = 2 ∨ r.kind = 3 ∨ r.kind = 4 ∨ r.kind = 5) (hln : f.ln = false) (hne : f.legs ≠ []) (hq : Qjl f r = some q)
  (hg1 : (QaE r f q).car.length ≤ 281474976710656) (hg2 : ∀ x ∈ (QaE r f q).legs, x.eq.length ≤ 281474976710656) :
  Ret lb Qan [pcv p, flcv f, rvcv r] (Qeq (Qb2 p f r q)) := by
 have a1 : Evt fun n => r.kind ≠ 2 → C lb n Qaq [flcv f, rvcv r] = some (flcv (QaE r f q)) := by
  by_cases h2 : r.kind = 2
  ·exact .all fun n h => absurd h2 h
  ·exact (Qlf lb f r q hl (by omega) hln hne hq).mono fun n h _ => h
 have h3 := QhU f r
 refine .top rfl (Evt.imp2 ((Qmd lb f.fr f.to f.days r.fr r.to r.days).and (Evt.and a1 (Evt.and (QyM lb) (Evt.ge 20)))) ((Qi1 lb p hp (QaE r f q) hg1 hg2).and (QsY lb)) fun n ⟨b1, b2, b3, b4⟩ ⟨b5, b6⟩ => ?_)
 rw [QnN]
 refine stO _ b1 (stO _ rfl ?_)
 obtain ⟨m, rfl⟩ : ∃ m, n = m + 1 := ⟨n - 1, by omega⟩
 rw [Qj5]
 cases hw : wF f r with
 | nil =>
  have hw' : Qch f.fr f.to f.days r.fr r.to r.days = [] := hw
  rw [hw']
  exact stF (decF (by simp [pl3])) (Qx1 lb (m + 1) p f r q b3 (by omega) (by unfold QaW; rw [hw]; rfl) b2 b5 b6)
 | cons x t =>
  have hJ := Qxl lb (m + 1) p f r q b3 (by omega) (by unfold QaW; rw [hw]; simp) b2 b5
  have L := QtF lb (m + 1) p f r q (by unfold QaW; rw [hw]; simp) hJ t [x] m (by rw [hw]; rfl) (by simp) (by rw [hw] at h3; simp at h3; omega)
  have hw' : Qch f.fr f.to f.days r.fr r.to r.days = x :: t := hw
  rw [hw] at L
  rw [hw']
  exact stT (decT (by simp [pl3])) (stO _ rfl (stO _ rfl (stC rfl (stO _ rfl (stO _ rfl (stO _ rfl L))))))
end Go.Proofs
set_option linter.unusedSimpArgs false
set_option linter.unusedVariables false
namespace Go.Proofs
open Go.Am
variable (lb : Nat)
structure OkF (f : Fl) : Prop where
 ln : f.ln = false
 ne : f.legs ≠ []
 len : f.legs.length ≤ 100
 car : f.car.length ≤ 281474976710656
 eq : ∀ x ∈ f.legs, x.eq.length ≤ 281474976710656
structure OkR (r : Rv) : Prop where
 car : r.car.length ≤ 281474976710656
 eq1 : r.eq.length ≤ 281474976710656
 eq : ∀ x ∈ r.legs, x.eq.length ≤ 281474976710656
def Qdy (r : Rv) : Fl := ⟨r.car, r.num, r.fr, r.to, r.days, r.ln, r.legs⟩
def qOf (f : Fl) (r : Rv) : P3 := (Qjl f r).getD (0, 0, 0)
theorem Qt2 {f : Fl} {r : Rv} (h : Qa2 f r = true) : Qjl f r = some (qOf f r) := by
 unfold Qa2 at h
 simp only [Bool.and_eq_true] at h
 unfold qOf
 cases hm : Qjl f r with
 | none => rw [hm] at h; simp at h
 | some x => rfl
theorem Qpa {f : Fl} {r : Rv} (hf : OkF f) (hr : OkR r) (q : P3) : (QaE r f q).car.length ≤ 281474976710656 ∧ ∀ x ∈ (QaE r f q).legs, x.eq.length ≤ 281474976710656 := by
 unfold QaE
 split
 ·exact ⟨hf.car, hr.eq⟩
 ·refine ⟨hf.car, fun x hx => ?_⟩
  obtain ⟨y, hy, rfl⟩ := List.mem_map.1 hx
  unfold Qdx
  split
  ·exact hf.eq y hy
  ·split
   ·exact hr.eq1
   ·exact hf.eq y hy
def anyE (r : Rv) (b : Bool) : Int := if b then (if r.kind = 1 then 6 else 0) else if r.kind = 1 then 0 else 7
def QeC (l : List Fl) (r : Rv) : Int := if r.kind < 1 ∨ r.kind > 5 then 8 else if perE r.fr r.to r.days ≠ 0 then perE r.fr r.to r.days else anyE r (l.any (Qa2 · r))
theorem Qf5 {l u t : List Fl} {f : Fl} (h : u ++ f :: t = l) : (l.map flE)[u.length]? = some (flE f) := by rw [← h]; simp
theorem QpZ (r : Rv) (bn : Bool) (l : List Fl) (hl : l.length ≤ 100000) (vL : CV) : ∀ (t u : List Fl), u ++ t = l → Evt fun n => ∀ k, t.length < k →
  revision_allowed_L1 lb n k bn (l.map flE) r.kind r.car r.num r.fr r.to r.days r.min r.eq r.ln (r.legs.map lgcv) vL (u.length : Int) = some (.int .i64 (anyE r (t.any (Qa2 · r))))
 | [], u, h => by
  refine .all fun n k hk => ?_
  obtain ⟨k, rfl⟩ : ∃ m, k = m + 1 := ⟨k - 1, by simp at hk; omega⟩
  have hp : u = l := by simpa using h
  rw [Qfw, ← hp]
  refine stF (decF (by simp)) ?_
  rw [Qj1]
  unfold anyE
  by_cases h1 : r.kind = 1
  ·refine stT (beqT h1) (stF (bneF h1) ?_); simp [h1]
  ·refine stF (beqF h1) (stT (bneT h1) ?_); simp [h1]
 | f :: t, u, h => by
  have hlen : l.length = u.length + (t.length + 1) := by rw [← h]; simp
  have hw1 : IntKind.wrap .i64 ((u.length : Int) + 1) = ((u ++ [f]).length : Int) := by rw [QaB (by omega) (by omega)]; simp
  refine Evt.imp2 (QdB lb f r) (QpZ r bn l hl vL t (u ++ [f]) (by rw [← h]; simp)) fun n hw hi k hk => ?_
  obtain ⟨k, rfl⟩ : ∃ m, k = m + 1 := ⟨k - 1, by simp at hk; omega⟩
  have hi := hi k (by simp at hk; omega)
  rw [Qfw]
  refine stT (decT (by simp; omega)) (stO _ (Qa5 (Qf5 h)) (stC rfl (stO _ rfl (stO _ rfl (stO _ rfl (stO _ rfl (stO _ rfl (stO _ rfl (stO _ hw (stO _ (QaF _) ?_))))))))))
  cases ht : Qa2 f r with
  | false =>
   refine stF rfl ?_
   rw [hw1, hi]
   simp [ht]
  | true =>
   refine stT rfl ?_
   unfold anyE
   simp only [List.any_cons, ht, Bool.true_or, if_true]
   by_cases h1 : r.kind = 1
   ·rw [if_pos h1]
    exact stT (beqT h1) (stT (decT (by omega)) rfl)
   ·rw [if_neg h1]
    exact stF (beqF h1) (stT (bneT h1) (stF (by rw [decT (by omega)]; rfl) rfl))
theorem QgK (r : Rv) (bn : Bool) (l : List Fl) (hl : l.length ≤ 100000) : Ret lb QaR [.list bn (l.map flE), rvcv r] (.int .i64 (QeC l r)) := by
 refine .top rfl (Evt.imp2 (QbO lb r.fr r.to r.days) (Evt.diag (QpZ lb r bn l hl (.int .i64 (perE r.fr r.to r.days)) l [] rfl)) fun n h1 h2 => ?_)
 rw [Ql1]
 unfold QeC
 by_cases a1 : r.kind < 1
 ·rw [if_pos (.inl a1)]; exact stT (decT a1) rfl
 ·by_cases a2 : r.kind > 5
  ·rw [if_pos (.inr a2)]; exact stF (decF a1) (stT (decT a2) rfl)
  ·rw [if_neg (by omega)]
   refine stF (decF a1) (stF (decF a2) (stO _ h1 (stO _ (QaH ..) ?_)))
   by_cases a3 : perE r.fr r.to r.days = 0
   ·rw [if_neg (by simpa using a3)]
    exact stF (bneF a3) h2
   ·rw [if_pos a3]
    exact stT (bneT a3) rfl
def finP (p : Pc) (r : Rv) (acc : List Fl) : List Fl × Int :=
 if r.kind = 1 then (match Qaz p (Qdy r) with
  | e :: _ => ([], e.1)
  | [] => (acc ++ [Qdy r], 0)) else (acc, 0)
def QdX (p : Pc) (r : Rv) : List Fl → List Fl → List Fl × Int
 | acc, [] => finP p r acc
 | acc, f :: t =>
  if r.kind = 1 then QdX p r (acc ++ [f]) t else
  if Qa2 f r = false then QdX p r (acc ++ [f]) t else
  if (Qb2 p f r (qOf f r)).2 = 0 then QdX p r (acc ++ (Qb2 p f r (qOf f r)).1) t else ([], (Qb2 p f r (qOf f r)).2)
def QpR (p : Pc) (l : List Fl) (r : Rv) : List Fl × Int := if QeC l r = 0 then QdX p r [] l else ([], QeC l r)
theorem QvC (p : Pc) (f : Fl) (r : Rv) (q : P3) : (Qb2 p f r q).1.length ≤ 4 := by
 have h : (QaW f r).length ≤ 3 := by unfold QaW; rw [List.length_map]; exact QhU f r
 unfold Qb2
 split
 ·show (QaW f r).length ≤ 4; omega
 ·split
  ·simp
  ·show (insF (QaE r f q) (QaW f r)).length ≤ 4; rw [Qny]; omega
theorem QyH (a b : List Fl) : (a.isEmpty && (b.map flE).isEmpty) = (a ++ b).isEmpty := by cases a <;> cases b <;> rfl
theorem Qt3 (p : Pc) (hp : Qcg p) (r : Rv) (hr : OkR r) (hk : 1 ≤ r.kind ∧ r.kind ≤ 5) (bn : Bool) (l : List Fl) (hl : ∀ f ∈ l, OkF f) (hll : l.length ≤ 100000) (vQ : CV) : ∀ (t u acc : List Fl), u ++ t = l → acc.length ≤ 4 * u.length → Evt fun n => ∀ k, t.length < k →
  QcV lb n k p.an (p.aps.map apcv) p.dn (p.dis.map dicv) bn (l.map flE) r.kind r.car r.num r.fr r.to r.days r.min r.eq r.ln (r.legs.map lgcv) vQ acc.isEmpty (acc.map flE) (u.length : Int) = some (Qeq (QdX p r acc t))
 | [], u, acc, h, ha => by
  have hu : u = l := by simpa using h
  refine (Qi1 lb p hp (Qdy r) (by have := hr.car; show r.car.length ≤ _; omega) (fun x hx => by have := hr.eq x hx; omega)).mono fun n hc k hk => ?_
  obtain ⟨k, rfl⟩ : ∃ m, k = m + 1 := ⟨k - 1, by simp at hk; omega⟩
  rw [Qcp, ← hu]
  refine stF (decF (by simp)) ?_
  rw [Qls]
  show _ = some (Qeq (finP p r acc))
  unfold finP
  by_cases h1 : r.kind = 1
  ·rw [if_pos h1]
   refine stT (beqT h1) (stO _ hc (stO _ rfl ?_))
   cases hch : Qaz p (Qdy r) with
   | nil =>
    refine stF (decF (by simp)) (stC (Qce (by simp; rw [hu] at ha; omega) (by omega)) ?_)
    rw [QcS acc (Qdy r)]
    unfold Qeq
    rw [List.map_append]; rfl
   | cons e t => exact stT (decT (by simp)) (stO _ rfl (stO _ rfl (stC rfl (stO _ rfl rfl))))
  ·rw [if_neg h1]
   exact stF (beqF h1) rfl
 | f :: t, u, acc, h, ha => by
  have hlen : l.length = u.length + (t.length + 1) := by rw [← h]; simp
  have hw1 : IntKind.wrap .i64 ((u.length : Int) + 1) = ((u ++ [f]).length : Int) := by rw [QaB (by omega) (by omega)]; simp
  have hf := hl f (by rw [← h]; simp)
  have hun : QdX p r acc (f :: t) = if r.kind = 1 then QdX p r (acc ++ [f]) t else
   if Qa2 f r = false then QdX p r (acc ++ [f]) t else
   if (Qb2 p f r (qOf f r)).2 = 0 then QdX p r (acc ++ (Qb2 p f r (qOf f r)).1) t else ([], (Qb2 p f r (qOf f r)).2) := rfl
  have ih1 := Qt3 p hp r hr hk bn l hl hll vQ t (u ++ [f]) (acc ++ [f]) (by rw [← h]; simp) (by simp; omega)
  by_cases h1 : r.kind = 1
  ·rw [hun, if_pos h1]
   refine ih1.mono fun n hi k hk => ?_
   obtain ⟨k, rfl⟩ : ∃ m, k = m + 1 := ⟨k - 1, by simp at hk; omega⟩
   have hi := hi k (by simp at hk; omega)
   rw [List.map_append, ← QcS acc f acc.isEmpty] at hi
   rw [Qcp, hw1]
   exact stT (decT (by simp; omega)) (stO _ (Qa5 (Qf5 h)) (stC rfl (stO _ rfl (stO _ rfl (stO _ rfl (stO _ rfl (stO _ rfl (stO _ rfl (stT (beqT h1) (stC (Qce (by simp; omega) (by omega)) hi))))))))))
  ·rw [hun, if_neg h1]
   cases ht : Qa2 f r with
   | false =>
    rw [if_pos rfl]
    refine Evt.imp2 (QdB lb f r) ih1 fun n hw hi k hk => ?_
    rw [ht] at hw
    obtain ⟨k, rfl⟩ : ∃ m, k = m + 1 := ⟨k - 1, by simp at hk; omega⟩
    have hi := hi k (by simp at hk; omega)
    rw [List.map_append, ← QcS acc f acc.isEmpty] at hi
    rw [Qcp, hw1]
    exact stT (decT (by simp; omega)) (stO _ (Qa5 (Qf5 h)) (stC rfl (stO _ rfl (stO _ rfl (stO _ rfl (stO _ rfl (stO _ rfl (stO _ rfl (stF (beqF h1) (stO _ hw (stO _ (QaF _) (stT rfl (stC (Qce (by simp; omega) (by omega)) hi)))))))))))))
   | true =>
    rw [if_neg (by simp)]
    obtain ⟨c1, c2⟩ := Qpa hf hr (qOf f r)
    have sp := Qm4 lb p hp f r (qOf f r) (by have := hf.len; omega) (by omega) hf.ln hf.ne (Qt2 ht) (by omega) (fun x hx => by have := c2 x hx; omega)
    have sl := QvC p f r (qOf f r)
    by_cases he : (Qb2 p f r (qOf f r)).2 = 0
    ·rw [if_pos he]
     have ih2 := Qt3 p hp r hr hk bn l hl hll vQ t (u ++ [f]) (acc ++ (Qb2 p f r (qOf f r)).1) (by rw [← h]; simp) (by simp; omega)
     refine Evt.imp2 ((QdB lb f r).and sp) ih2 fun n ⟨hw, hs⟩ hi k hk => ?_
     rw [ht] at hw
     obtain ⟨k, rfl⟩ : ∃ m, k = m + 1 := ⟨k - 1, by simp at hk; omega⟩
     have hi := hi k (by simp at hk; omega)
     rw [List.map_append, ← QyH] at hi
     rw [Qcp, hw1]
     exact stT (decT (by simp; omega)) (stO _ (Qa5 (Qf5 h)) (stC rfl (stO _ rfl (stO _ rfl (stO _ rfl (stO _ rfl (stO _ rfl (stO _ rfl (stF (beqF h1) (stO _ hw (stO _ (QaF _) (stF rfl (stO _ hs (stO _ rfl (stO _ rfl (stO _ rfl (stO _ rfl (stO _ (QaH ..) (stF (bneF he) (stO _ rfl (stC (by simp [flE]) (stC (Qce (by simp; omega) (by omega)) hi))))))))))))))))))))))
    ·rw [if_neg he]
     refine Evt.imp2 (QdB lb f r) sp fun n hw hs k hk => ?_
     rw [ht] at hw
     obtain ⟨k, rfl⟩ : ∃ m, k = m + 1 := ⟨k - 1, by simp at hk; omega⟩
     rw [Qcp, hw1]
     exact stT (decT (by simp; omega)) (stO _ (Qa5 (Qf5 h)) (stC rfl (stO _ rfl (stO _ rfl (stO _ rfl (stO _ rfl (stO _ rfl (stO _ rfl (stF (beqF h1) (stO _ hw (stO _ (QaF _) (stF rfl (stO _ hs (stO _ rfl (stO _ rfl (stO _ rfl (stO _ rfl (stO _ (QaH ..) (stT (bneT he) rfl)))))))))))))))))))
theorem Qtw {l : List Fl} {r : Rv} (h : QeC l r = 0) : 1 ≤ r.kind ∧ r.kind ≤ 5 := by
 unfold QeC at h
 split at h
 ·cases h
 ·omega
theorem Qnc (p : Pc) (hp : Qcg p) (r : Rv) (hr : OkR r) (bn : Bool) (l : List Fl) (hl : ∀ f ∈ l, OkF f) (hll : l.length ≤ 100000) : Ret lb Qbi [pcv p, .list bn (l.map flE), rvcv r] (Qeq (QpR p l r)) := by
 unfold QpR
 by_cases ha : QeC l r = 0
 ·rw [if_pos ha]
  refine .top rfl (Evt.imp2 (QgK lb r bn l hll) (Evt.diag (Qt3 lb p hp r hr (Qtw ha) bn l hl hll (.int .i64 (QeC l r)) l [] [] rfl (by simp))) fun n h1 h2 => ?_)
  rw [Qig]
  exact stO _ h1 (stO _ (QaH ..) (stF (bneF ha) h2))
 ·rw [if_neg ha]
  refine .top rfl ((QgK lb r bn l hll).mono fun n h1 => ?_)
  rw [Qig]
  exact stO _ h1 (stO _ (QaH ..) (stT (bneT ha) rfl))
end Go.Proofs
set_option linter.unusedSimpArgs false
set_option linter.unusedVariables false
namespace Go.Proofs
open Go.Am
variable (lb : Nat)
def outR (r : Rv) : List Fl → List Fl
 | [] => []
 | f :: t => (if Qa2 f r then (QdI f r (qOf f r)).1 else [f]) ++ outR r t
def newR (r : Rv) : List Fl → List Fl
 | [] => []
 | f :: t => (if Qa2 f r && decide (r.kind ≠ 2) then [QaE r f (qOf f r)] else []) ++ newR r t
def Qfd (r : Rv) : List Fl → Nat
 | [] => 0
 | f :: t => (if Qa2 f r then 1 else 0) + Qfd r t
def QcQ (p : Pc) : List Fl → Option Int
 | [] => none
 | g :: t => match Qaz p g with
  | e :: _ => some e.1
  | [] => QcQ p t
def chkR (p : Pc) (out new : List Fl) : List Fl × Int := match QcQ p new with
 | some e => ([], e)
 | none => (out, 0)
def Qym (g : Fl) : Prop := g.car.length ≤ 281474976710656 ∧ ∀ x ∈ g.legs, x.eq.length ≤ 281474976710656
theorem Qvi (f : Fl) (r : Rv) (q : P3) : (QdI f r q).1.length ≤ 4 := by
 have h : (QaW f r).length ≤ 3 := by unfold QaW; rw [List.length_map]; exact QhU f r
 unfold QdI
 split
 ·show (QaW f r).length ≤ 4; omega
 ·show (insF (QaE r f q) (QaW f r)).length ≤ 4; rw [Qny]; omega
def resF (p : Pc) (l : List Fl) (r : Rv) : List Fl × Int :=
 if r.kind < 1 ∨ r.kind > 5 then ([], 8) else if perE r.fr r.to r.days ≠ 0 then ([], perE r.fr r.to r.days) else
 if r.kind = 1 then (if Qfd r l = 0 then chkR p (outR r l ++ [Qdy r]) (newR r l ++ [Qdy r]) else ([], 6)) else
 if Qfd r l = 0 then ([], 7) else chkR p (outR r l) (newR r l)
theorem QtC (r : Rv) : ∀ l : List Fl, (outR r l).length ≤ 4 * l.length
 | [] => by simp [outR]
 | f :: t => by
  have := QtC r t
  have := Qvi f r (qOf f r)
  unfold outR
  split <;> simp <;> omega
end Go.Proofs
set_option linter.unusedSimpArgs false
set_option linter.unusedVariables false
namespace Go.Proofs
open Go.Am
theorem QtE {f : Fl} {e : Ft} (h : e ∈ Qc5 f) : e.1 ≠ 0 := by
 unfold Qc5 at h
 simp only [List.mem_append] at h
 rcases h with (h | h) | h
 ·split at h
  ·simp at h
  ·simp at h; rw [h]; decide
 ·split at h
  ·simp at h
  ·simp at h; rw [h]; decide
 ·split at h
  ·rename_i hh; simp at h hh; rw [h]; exact hh
  ·simp at h
theorem QyB {p : Pc} {q : List Lg} {x : Lg} {e : Int} (h : e ∈ legE p q x) : e ≠ 0 := by
 unfold legE at h
 simp only [List.mem_append] at h
 rcases h with ((h | h) | h) | h <;> (split at h <;> simp at h <;> subst h <;> decide)
theorem QrV {p : Pc} {e : Ft} : ∀ (t q : List Lg), e ∈ QaZ p q t → e.1 ≠ 0
 | [], q, h => by simp [QaZ] at h
 | x :: t, q, h => by
  unfold QaZ at h
  rcases List.mem_append.1 h with h | h
  ·obtain ⟨z, hz, rfl⟩ := List.mem_map.1 h
   exact QyB hz
  ·exact QrV t _ h
theorem Qs8 {p : Pc} {l : List Lg} {e : Ft} : ∀ (r : List Int), e ∈ Qcn p l r → e.1 ≠ 0
 | [], h => by simp [Qcn] at h
 | d :: r, h => by
  unfold Qcn at h
  split at h
  ·exact Qs8 r h
  ·simp at h; subst h; simp
theorem QrR {p : Pc} {f : Fl} {e : Ft} (h : e ∈ Qaz p f) : e.1 ≠ 0 := by
 unfold Qaz at h
 split at h
 ·unfold QfM at h
  rcases List.mem_append.1 h with h | h
  ·exact QtE h
  ·split at h
   ·simp at h; subst h; simp
   ·simp at h
 ·split at h
  ·exact Qs8 _ h
  ·rcases List.mem_append.1 h with h | h
   ·exact QtE h
   ·exact QrV _ _ h
theorem QsZ (r : Rv) : ∀ l : List Fl, (l.any (Qa2 · r) = false) ↔ Qfd r l = 0
 | [] => by simp [Qfd]
 | f :: t => by
  have := QsZ r t
  cases h : Qa2 f r <;> simp [Qfd, h, this]
theorem Qo7 (r : Rv) : ∀ l : List Fl, Qfd r l = 0 → outR r l = l ∧ newR r l = []
 | [], _ => ⟨rfl, rfl⟩
 | f :: t, h => by
  have ht : Qa2 f r = false := by
   cases h1 : Qa2 f r with
   | false => rfl
   | true => simp [Qfd, h1] at h
  have h2 : Qfd r t = 0 := by simp [Qfd, ht] at h; exact h
  obtain ⟨a, b⟩ := Qo7 r t h2
  simp [outR, newR, ht, a, b]
theorem Qr5 (p : Pc) (r : Rv) (h1 : r.kind = 1) : ∀ (t acc : List Fl), QdX p r acc t = finP p r (acc ++ t)
 | [], acc => by simp [QdX]
 | f :: t, acc => by
  have := Qr5 p r h1 t (acc ++ [f])
  rw [QdX, if_pos h1, this]; simp
theorem Qjk (p : Pc) (r : Rv) (h1 : r.kind ≠ 1) : ∀ (t acc : List Fl), QdX p r acc t = chkR p (acc ++ outR r t) (newR r t)
 | [], acc => by
  show finP p r acc = _
  unfold finP
  rw [if_neg h1]
  simp [outR, newR, chkR, QcQ]
 | f :: t, acc => by
  rw [QdX, if_neg h1]
  cases ht : Qa2 f r with
  | false =>
   rw [if_pos rfl, Qjk p r h1 t (acc ++ [f])]
   simp [outR, newR, ht]
  | true =>
   rw [if_neg (by simp)]
   by_cases h2 : r.kind = 2
   ·have e : Qb2 p f r (qOf f r) = (QaW f r, 0) := by unfold Qb2; rw [if_pos h2]
    have e2 : QdI f r (qOf f r) = (QaW f r, -1) := by unfold QdI; rw [if_pos h2]
    rw [e, if_pos rfl, Qjk p r h1 t]
    simp [outR, newR, ht, e2, h2]
   ·have e2 : (QdI f r (qOf f r)).1 = insF (QaE r f (qOf f r)) (QaW f r) := by unfold QdI; rw [if_neg h2]
    have e3 : newR r (f :: t) = QaE r f (qOf f r) :: newR r t := by simp [newR, ht, h2]
    have e4 : outR r (f :: t) = insF (QaE r f (qOf f r)) (QaW f r) ++ outR r t := by simp [outR, ht, e2]
    rw [e3, e4]
    cases hc : Qaz p (QaE r f (qOf f r)) with
    | nil =>
     have e : Qb2 p f r (qOf f r) = (insF (QaE r f (qOf f r)) (QaW f r), 0) := by unfold Qb2; rw [if_neg h2, hc]
     rw [e, if_pos rfl, Qjk p r h1 t]
     unfold chkR
     rw [QcQ, hc, List.append_assoc]
    | cons x s =>
     have e : Qb2 p f r (qOf f r) = ([], x.1) := by unfold Qb2; rw [if_neg h2, hc]
     have hx : x.1 ≠ 0 := QrR (p := p) (f := QaE r f (qOf f r)) (by rw [hc]; simp)
     rw [e, if_neg hx]
     unfold chkR
     rw [QcQ, hc]
theorem QxQ (p : Pc) (l : List Fl) (r : Rv) : QpR p l r = resF p l r := by
 unfold QpR resF QeC
 by_cases a1 : r.kind < 1 ∨ r.kind > 5
 ·rw [if_pos a1, if_pos a1]; rfl
 ·rw [if_neg a1, if_neg a1]
  by_cases a3 : perE r.fr r.to r.days ≠ 0
  ·rw [if_pos a3, if_pos a3, if_neg a3]
  ·rw [if_neg a3, if_neg a3]
   have m := QsZ r l
   unfold anyE
   by_cases h1 : r.kind = 1
   ·rw [if_pos h1, if_pos h1, if_pos h1]
    by_cases hm : Qfd r l = 0
    ·rw [m.2 hm, if_pos hm]
     obtain ⟨o1, o2⟩ := Qo7 r l hm
     rw [o1, o2]
     simp only [Bool.false_eq_true, if_false, if_true]
     rw [Qr5 p r h1, List.nil_append]
     unfold finP chkR
     rw [if_pos h1, List.nil_append, QcQ]
     cases Qaz p (Qdy r) <;> simp [QcQ]
    ·have : l.any (Qa2 · r) = true := by
      cases h : l.any (Qa2 · r) with
      | true => rfl
      | false => exact absurd (m.1 h) hm
     rw [this, if_neg hm]
     simp
   ·rw [if_neg h1, if_neg h1, if_neg h1]
    by_cases hm : Qfd r l = 0
    ·rw [m.2 hm, if_pos hm]
     simp
    ·have : l.any (Qa2 · r) = true := by
      cases h : l.any (Qa2 · r) with
      | true => rfl
      | false => exact absurd (m.1 h) hm
     rw [this, if_neg hm]
     simp only [if_true]
     rw [Qjk p r h1, List.nil_append]
end Go.Proofs
set_option linter.unusedSimpArgs false
set_option linter.unusedVariables false
namespace Go.Proofs
open Go.Am
variable (lb : Nat)
def QyN : Bs := [102, 108, 105, 103, 104, 116, 32]
def atS (i : Nat) : Bs := QyN ++ Lib.itoa (i : Int)
def ownE (i : Nat) (e : Ft) : Ft := (e.1, (atS i ++ [32]) ++ e.2)
def ft8 (p : Pc) (i : Nat) (tw : Bool) (f : Fl) : List Ft := (Qaz p f).map (ownE i) ++ if tw then [(6, atS i)] else []
def QdQ (p : Pc) : List Fl → List Fl → List Ft
 | _, [] => []
 | q, f :: t => ft8 p q.length (q.any (QcP · f)) f ++ QdQ p (q ++ [f]) t
theorem Qrj {f : Fl} {e : Ft} (h : e ∈ Qc5 f) : e.2.length ≤ 100 := by
 unfold Qc5 at h
 simp only [List.mem_append] at h
 rcases h with (h | h) | h
 ·split at h
  ·simp at h
  ·simp at h; rw [h]; decide
 ·split at h
  ·simp at h
  ·simp at h; rw [h]; decide
 ·split at h
  ·simp at h; rw [h]; show wPeriod.length ≤ 100; decide
  ·simp at h
theorem Qqq {p : Pc} {e : Ft} : ∀ (t q : List Lg), q.length + t.length ≤ 1000 → e ∈ QaZ p q t → e.2.length ≤ 100
 | [], q, _, h => by simp [QaZ] at h
 | x :: t, q, hq, h => by
  unfold QaZ at h
  rcases List.mem_append.1 h with h | h
  ·obtain ⟨z, hz, rfl⟩ := List.mem_map.1 h
   have := QeB (z := (q.length : Int)) (by omega) (by simp at hq; omega)
   have : wLeg.length = 4 := rfl
   simp; omega
  ·exact Qqq t _ (by simp at hq ⊢; omega) h
theorem QrZ {p : Pc} {l : List Lg} {e : Ft} : ∀ (r : List Int), e ∈ Qcn p l r → e.2.length ≤ 100
 | [], h => by simp [Qcn] at h
 | d :: r, h => by
  unfold Qcn at h
  split at h
  ·exact QrZ r h
  ·simp at h; rw [h]
   have : wDay.length = 4 := rfl
   have := Qm3 d
   simp; omega
theorem QvE {p : Pc} {f : Fl} {e : Ft} (h : e ∈ Qaz p f) : e.2.length ≤ 100 := by
 unfold Qaz at h
 split at h
 ·unfold QfM at h
  rcases List.mem_append.1 h with h | h
  ·exact Qrj h
  ·split at h
   ·simp at h; rw [h]; decide
   ·simp at h
 ·split at h
  ·exact QrZ _ h
  ·rcases List.mem_append.1 h with h | h
   ·exact Qrj h
   ·exact Qqq _ _ (by simp; omega) h
theorem Qr4 (p : Pc) (l : List Lg) : ∀ (D : List Int), (Qcn p l D).length ≤ 1
 | [] => by simp [Qcn]
 | d :: D => by
  have := Qr4 p l D
  unfold Qcn; split <;> simp [this]
theorem Qk9 (p : Pc) (f : Fl) : (Qaz p f).length ≤ 50 := by
 unfold Qaz
 have hg := QjB f
 split
 ·unfold QfM; rw [List.length_append]
  have : (if (decide ((f.legs.length : Int) < 1) || decide ((f.legs.length : Int) > 6)) then [(4, Qnn)] else [] : List Ft).length ≤ 1 := by split <;> simp
  omega
 ·split
  ·have := Qr4 p f.legs (Qar f.fr f.to f.days); omega
  ·rw [List.length_append]; have := QiB p f.legs []; omega
theorem Qyv (p : Pc) (i : Nat) (tw : Bool) (f : Fl) : (ft8 p i tw f).length ≤ 51 := by
 have := Qk9 p f
 unfold ft8
 cases tw <;> simp <;> omega
theorem Qyn (n k0 : Nat) (p : Pc) (bn : Bool) (L : List (List CV)) (i : Nat) (hi : i ≤ 1000) (f : Fl) (yj : CV) (H : List Ft) (hH : H.length ≤ 900000) : ∀ (t u : List Ft) (k : Nat), u ++ t = Qaz p f → t.length < k →
  QgY lb n k k0 p.an (p.aps.map apcv) p.dn (p.dis.map dicv) bn L (i : Int) (Lib.itoa (i : Int)) (QbW (Qaz p f)) yj (flE f) (.str f.car) (.int .i64 f.num) (.int .i64 f.fr) (.int .i64 f.to) (.int .i64 f.days) (.list f.ln (f.legs.map lgcv)) (H ++ u.map (ownE i)).isEmpty ((H ++ u.map (ownE i)).map Qa7) (u.length : Int) =
   Qjc lb n k0 p.an (p.aps.map apcv) p.dn (p.dis.map dicv) bn L (i : Int) (Lib.itoa (i : Int)) (QbW (Qaz p f)) yj (flE f) (.str f.car) (.int .i64 f.num) (.int .i64 f.fr) (.int .i64 f.to) (.int .i64 f.days) (.list f.ln (f.legs.map lgcv)) (H ++ (Qaz p f).map (ownE i)).isEmpty ((H ++ (Qaz p f).map (ownE i)).map Qa7) ((Qaz p f).length : Int)
 | [], u, k, h, hk => by
  obtain ⟨k, rfl⟩ : ∃ m, k = m + 1 := ⟨k - 1, by simp at hk; omega⟩
  have hu : u = Qaz p f := by simpa using h
  rw [Qil, hu]
  exact stO _ rfl (stF (decF (by simp)) rfl)
 | e :: t, u, k, h, hk => by
  obtain ⟨k, rfl⟩ : ∃ m, k = m + 1 := ⟨k - 1, by simp at hk; omega⟩
  have hc := Qk9 p f
  have hl : (Qaz p f).length = u.length + (t.length + 1) := by rw [← h]; simp
  have hs := QvE (p := p) (f := f) (e := e) (by rw [← h]; simp)
  have hit := QeB (z := (i : Int)) (by omega) (by omega)
  have hw1 : IntKind.wrap .i64 ((u.length : Int) + 1) = ((u ++ [e]).length : Int) := by rw [QaB (by omega) (by omega)]; simp
  have hg : ((Qaz p f).map Qa7)[u.length]? = some (Qa7 e) := by rw [← h]; simp
  have ih := Qyn n k0 p bn L i hi f yj H hH t (u ++ [e]) k (by rw [← h]; simp) (by simp at hk; omega)
  have e2 : H ++ (u ++ [e]).map (ownE i) = (H ++ u.map (ownE i)) ++ [ownE i e] := by simp
  rw [e2, List.map_append (l₁ := H ++ u.map (ownE i)) (l₂ := [ownE i e]), ← QcS (H ++ u.map (ownE i)) (ownE i e) (H ++ u.map (ownE i)).isEmpty] at ih
  rw [Qil, hw1]
  refine stO _ rfl (stT (decT (by simp; omega)) (stO _ rfl (stO _ (Qa5 hg) (stC rfl (stO _ rfl (stC (decT (by simp; omega)) (stO _ rfl (stO _ (Qa5 hg) (stC rfl (stO _ rfl (stO _ rfl (stC (decT (by simp; omega)) (stC rfl (stC (Qce (by simp; omega) (by omega)) ih))))))))))))))
theorem Qyh (p : Pc) (bn : Bool) (l : List Fl) (q : List Fl) (f : Fl) (t0 : List Fl) (hq : q ++ f :: t0 = l) (hql : q.length ≤ 1000) (b : Bool) (H : List (List CV)) (s140 : Bs) (w8 yj : CV) (yY : Int) (c141 : List CV) (x1 x2 x3 x4 x5 x6 : CV) : ∀ (t u : List Fl), u ++ t = q → Evt fun n => ∀ k k0, t.length < k →
  Qfz lb n k k0 p.an (p.aps.map apcv) p.dn (p.dis.map dicv) bn (l.map flE) b H (q.length : Int) s140 w8 yY yj c141 x1 x2 x3 x4 x5 x6 (.bool (u.any (QcP · f))) (u.length : Int) =
   Qjb lb n k0 p.an (p.aps.map apcv) p.dn (p.dis.map dicv) bn (l.map flE) b H (q.length : Int) s140 w8 yY yj c141 x1 x2 x3 x4 x5 x6 (.bool (q.any (QcP · f))) (q.length : Int)
 | [], u, h => by
  refine .all fun n k k0 hk => ?_
  obtain ⟨k, rfl⟩ : ∃ m, k = m + 1 := ⟨k - 1, by simp at hk; omega⟩
  have hu : u = q := by simpa using h
  rw [Qin, hu]
  exact stF (decF (by simp)) rfl
 | x :: t, u, h => by
  have hl : q.length = u.length + (t.length + 1) := by rw [← h]; simp
  have hw1 : IntKind.wrap .i64 ((u.length : Int) + 1) = ((u ++ [x]).length : Int) := by rw [QaB (by omega) (by omega)]; simp
  have hx : (l.map flE)[u.length]? = some (flE x) := by rw [← hq, ← h]; simp
  refine Evt.imp2 (Qr7 lb x f) (Qyh p bn l q f t0 hq hql b H s140 w8 yj yY c141 x1 x2 x3 x4 x5 x6 t (u ++ [x]) (by rw [← h]; simp)) fun n hm hi k k0 hk => ?_
  obtain ⟨k, rfl⟩ : ∃ m, k = m + 1 := ⟨k - 1, by simp at hk; omega⟩
  have hi := hi k k0 (by simp at hk; omega)
  rw [Qin, hw1]
  refine stT (decT (by omega)) (stO _ (QaF _) ?_)
  cases ha : u.any (QcP · f) with
  | true =>
   have e : (u ++ [x]).any (QcP · f) = true := by rw [List.any_append, ha]; rfl
   rw [e] at hi
   exact stT rfl hi
  | false =>
   have e : (u ++ [x]).any (QcP · f) = QcP x f := by rw [List.any_append, ha]; simp
   rw [e] at hi
   exact stF rfl (stO _ (Qa5 hx) (stC rfl (stO _ rfl (stO _ rfl (stO _ rfl (stO _ rfl (stO _ rfl (stO _ rfl (stO _ (Qa5 (Qf5 hq)) (stC rfl (stO _ rfl (stO _ rfl (stO _ rfl (stO _ rfl (stO _ rfl (stO _ rfl (stO _ hm hi)))))))))))))))))
theorem Qyg (p : Pc) (hp : Qcg p) (bn : Bool) (l : List Fl) (hl : ∀ f ∈ l, Qym f) (hll : l.length ≤ 1000) : ∀ (t q : List Fl) (H : List Ft), q ++ t = l → H.length ≤ 51 * q.length → Evt fun n => ∀ k, t.length < k →
  QgV lb n k p.an (p.aps.map apcv) p.dn (p.dis.map dicv) bn (l.map flE) H.isEmpty (H.map Qa7) (q.length : Int) = some (QbW (H ++ QdQ p q t))
 | [], q, H, h, hH => by
  refine .all fun n k hk => ?_
  obtain ⟨k, rfl⟩ : ∃ m, k = m + 1 := ⟨k - 1, by simp at hk; omega⟩
  have hu : q = l := by simpa using h
  rw [Qij, hu]
  refine stF (decF (by simp)) ?_
  rw [Qp5]
  simp [QdQ, QbW]
 | f :: t, q, H, h, hH => by
  have hlen : l.length = q.length + (t.length + 1) := by rw [← h]; simp
  have hw1 : IntKind.wrap .i64 ((q.length : Int) + 1) = ((q ++ [f]).length : Int) := by rw [QaB (by omega) (by omega)]; simp
  obtain ⟨g1, g2⟩ := hl f (by rw [← h]; simp)
  have hf8 := Qyv p q.length (q.any (QcP · f)) f
  have hc := Qk9 p f
  have hit := QeB (z := (q.length : Int)) (by omega) (by omega)
  have q4 := Qyh lb p bn l q f t h (by omega) (H ++ (Qaz p f).map (ownE q.length)).isEmpty ((H ++ (Qaz p f).map (ownE q.length)).map Qa7) (Lib.itoa (q.length : Int)) (QbW (Qaz p f)) (.str (Lib.itoa (q.length : Int))) ((Qaz p f).length : Int) (flE f) (.str f.car) (.int .i64 f.num) (.int .i64 f.fr) (.int .i64 f.to) (.int .i64 f.days) (.list f.ln (f.legs.map lgcv)) q [] rfl
  refine Evt.imp2 ((Qfe lb (q.length : Int) (by omega) (by omega)).and ((Qsg lb p hp f (by omega) (fun x hx => by have := g2 x hx; omega)).and (Evt.ge 1100))) (Evt.and q4 (Qyg p hp bn l hl hll t (q ++ [f]) (H ++ ft8 p q.length (q.any (QcP · f)) f) (by rw [← h]; simp) (by simp; omega))) fun n ⟨a1, a2, a3⟩ ⟨a4, hi⟩ k hk => ?_
  obtain ⟨k, rfl⟩ : ∃ m, k = m + 1 := ⟨k - 1, by simp at hk; omega⟩
  have hi := hi k (by simp at hk; omega)
  have a4 := a4 n k (by omega)
  have z := Qyn lb n k p bn (l.map flE) q.length (by omega) f (.str (Lib.itoa (q.length : Int))) H (by omega) (Qaz p f) [] n rfl (by omega)
  rw [List.map_nil, List.append_nil] at z
  rw [Qij]
  refine stT (decT (by simp; omega)) (stO _ a1 (stO _ rfl (stC (decT (by simp; omega)) (stO _ (Qa5 (Qf5 h)) (stC rfl (stO _ rfl (stO _ rfl (stO _ rfl (stO _ rfl (stO _ rfl (stO _ rfl (stO _ a2 (z.trans ?_)))))))))))))
  rw [QpQ]
  refine a4.trans ?_
  rw [Qpk]
  refine stO _ (QaF _) ?_
  have e9 : QdQ p q (f :: t) = ft8 p q.length (q.any (QcP · f)) f ++ QdQ p (q ++ [f]) t := rfl
  rw [e9, ← List.append_assoc]
  cases ha : q.any (QcP · f) with
  | true =>
   rw [ha] at hi
   have e : H ++ ft8 p q.length true f = (H ++ (Qaz p f).map (ownE q.length)) ++ [(6, atS q.length)] := by simp [ft8]
   rw [e] at hi ⊢
   rw [List.map_append (l₁ := H ++ (Qaz p f).map (ownE q.length)) (l₂ := [(6, atS q.length)]), ← QcS (H ++ (Qaz p f).map (ownE q.length)) (6, atS q.length) (H ++ (Qaz p f).map (ownE q.length)).isEmpty] at hi
   refine stT rfl (stC (Qce (by simp; omega) (by omega)) ?_)
   rw [QjU, hw1]
   exact hi
  | false =>
   rw [ha] at hi
   have e : H ++ ft8 p q.length false f = H ++ (Qaz p f).map (ownE q.length) := by simp [ft8]
   rw [e] at hi ⊢
   refine stF rfl ?_
   rw [QjU, hw1]
   exact hi
theorem QlJ (p : Pc) (hp : Qcg p) (bn : Bool) (l : List Fl) (hl : ∀ f ∈ l, Qym f) (hll : l.length ≤ 1000) : Ret lb Qaf [pcv p, .list bn (l.map flE)] (QbW (QdQ p [] l)) := by
 refine .top rfl ((Evt.diag (Qyg lb p hp bn l hl hll l [] [] rfl (by simp))).mono fun n h => ?_)
 rw [Qt5]
 exact h
theorem QrE {p : Pc} : ∀ {t q : List Fl}, QdQ p q t = [] → (∀ f ∈ t, Qaz p f = []) 
 | [], q, _ => by simp
 | f :: t, q, h => by
  unfold QdQ at h
  obtain ⟨h1, h2⟩ := List.append_eq_nil_iff.1 h
  intro g hg
  rcases List.mem_cons.1 hg with rfl | hg
  ·unfold ft8 at h1
   obtain ⟨h3, _⟩ := List.append_eq_nil_iff.1 h1
   exact List.map_eq_nil_iff.1 h3
  ·exact QrE h2 g hg
end Go.Proofs
set_option linter.unusedSimpArgs false
set_option linter.unusedVariables false
namespace Go.Proofs
open Go.Am
variable (lb : Nat)
def ArgL (l : List Fl) : Prop := l.length ≤ 281474976710656 ∧ ∀ f ∈ l, ArgF f ∧ (f.ln = true → f.legs = [])
def ArgR (r : Rv) : Prop := r.car.length ≤ 281474976710656 ∧ r.legs.length ≤ 281474976710656 ∧ (∀ x ∈ r.legs, Qdb x ≤ 1000000000000000) ∧ (r.ln = true → r.legs = [])
def QkH (p : Pc) (l : List Fl) : Bool := decide (l.length > 12) || (decide (p.aps.length > 20) || (decide (p.dis.length > 40) || l.any (bigB p)))
theorem Qwu (p : Pc) (hp : ArgP p) (bn : Bool) (l : List Fl) (hl : ∀ f ∈ l, ArgF f) (hll : l.length ≤ 1000) : ∀ (t u : List Fl), u ++ t = l → Evt fun n => ∀ k, t.length < k →
  r10_Big_L1 lb n k p.an (p.aps.map apcv) p.dn (p.dis.map dicv) bn (l.map flE) (u.length : Int) = some (.bool (t.any (bigB p)))
 | [], u, h => by
  refine .all fun n k hk => ?_
  obtain ⟨k, rfl⟩ : ∃ m, k = m + 1 := ⟨k - 1, by simp at hk; omega⟩
  have hu : u = l := by simpa using h
  rw [Qjx, hu]
  refine stF (decF (by simp)) ?_
  rw [Qsp]
  rfl
 | f :: t, u, h => by
  have hlen : l.length = u.length + (t.length + 1) := by rw [← h]; simp
  have hw1 : IntKind.wrap .i64 ((u.length : Int) + 1) = ((u ++ [f]).length : Int) := by rw [QaB (by omega) (by omega)]; simp
  refine Evt.imp2 (QyP lb p f hp (hl f (by rw [← h]; simp))) (Qwu p hp bn l hl hll t (u ++ [f]) (by rw [← h]; simp)) fun n hm hi k hk => ?_
  obtain ⟨k, rfl⟩ : ∃ m, k = m + 1 := ⟨k - 1, by simp at hk; omega⟩
  have hi := hi k (by simp at hk; omega)
  rw [Qjx, hw1]
  refine stT (decT (by simp; omega)) (stO _ (Qa5 (Qf5 h)) (stC rfl (stO _ rfl (stO _ rfl (stO _ rfl (stO _ rfl (stO _ rfl (stO _ rfl (stO _ hm (stO _ (QaF _) ?_))))))))))
  rw [List.any_cons]
  cases bigB p f with
  | true => exact stT rfl rfl
  | false => exact stF rfl (by simpa using hi)
theorem Qka (p : Pc) (hp : ArgP p) (bn : Bool) (l : List Fl) (hl : ArgL l) : Ret lb Qc4 [pcv p, .list bn (l.map flE)] (.bool (QkH p l)) := by
 unfold QkH
 by_cases h1 : l.length > 12
 ·refine .top rfl (.all fun n => ?_)
  rw [Qip, decT h1]
  exact stT (decT (by simp; omega)) rfl
 ·by_cases h2 : p.aps.length > 20
  ·refine .top rfl (.all fun n => ?_)
   rw [Qip, decF h1, decT h2]
   exact stF (decF (by simp; omega)) (stT (decT (by simp; omega)) rfl)
  ·by_cases h3 : p.dis.length > 40
   ·refine .top rfl (.all fun n => ?_)
    rw [Qip, decF h1, decF h2, decT h3]
    exact stF (decF (by simp; omega)) (stF (decF (by simp; omega)) (stT (decT (by simp; omega)) rfl))
   ·refine .top rfl ((Evt.diag (Qwu lb p hp bn l (fun f hf => (hl.2 f hf).1) (by omega) l [] rfl)).mono fun n h => ?_)
    rw [Qip, decF h1, decF h2, decF h3]
    exact stF (decF (by simp; omega)) (stF (decF (by simp; omega)) (stF (decF (by simp; omega)) h))
def QkC (p : Pc) (l : List Fl) : Bool := !QkH p l && ((Qhe p).isEmpty && (QdQ p [] l).isEmpty)
theorem Qnk {p : Pc} {l : List Fl} (h : QkH p l = false) : l.length ≤ 12 ∧ p.aps.length ≤ 20 ∧ p.dis.length ≤ 40 ∧ ∀ f ∈ l, bigB p f = false := by
 unfold QkH at h
 simp only [Bool.or_eq_false_iff, decide_eq_false_iff_not] at h
 obtain ⟨h1, h2, h3, h4⟩ := h
 refine ⟨by omega, by omega, by omega, fun f hf => ?_⟩
 have := List.any_eq_false.1 h4 f hf
 simpa using this
theorem Qwe (F : List Ft) : (((F.map Qa7).length : Int) == 0) = F.isEmpty := by cases F with
 | nil => rfl
 | cons e F => exact beqF (by simp; omega)
theorem Qr9 (p : Pc) (hp : ArgP p) (bn : Bool) (l : List Fl) (hl : ArgL l) : Ret lb Qkg [pcv p, .list bn (l.map flE)] (.bool (QkC p l)) := by
 unfold QkC
 cases hB : QkH p l with
 | true =>
  refine .top rfl ((Qka lb p hp bn l hl).mono fun n h => ?_)
  rw [QiI]
  exact stO _ h (stO _ rfl (stF (by rw [hB]; rfl) rfl))
 | false =>
  obtain ⟨b1, b2, b3, b4⟩ := Qnk hB
  have hP := QsC lb p (by omega) (by omega) hp.2.2
  cases hF : (Qhe p).isEmpty with
  | false =>
   refine .top rfl (Evt.imp2 (Qka lb p hp bn l hl) hP fun n h h2 => ?_)
   rw [QiI]
   exact stO _ h (stO _ rfl (stT (by rw [hB]; rfl) (stO _ h2 (stO _ rfl (stF (by rw [Qwe, hF]) rfl)))))
  | true =>
   have hS := QkW (p := p) (by omega) (by simpa using hF)
   have h8 := QlJ lb p hS bn l (fun f hf => by
    obtain ⟨c1, c2, _⟩ := Qk3 (b4 f hf)
    exact ⟨by omega, fun x hx => by have := (c2 x hx).2.2; omega⟩) (by omega)
   refine .top rfl (Evt.imp2 (Qka lb p hp bn l hl) (Evt.and hP h8) fun n h ⟨h2, h3⟩ => ?_)
   rw [QiI]
   refine stO _ h (stO _ rfl (stT (by rw [hB]; rfl) (stO _ h2 (stO _ rfl (stT (by rw [Qwe, hF]) (stO _ h3 (stO _ rfl ?_)))))))
   rw [Qwe]; rfl
theorem Qxn {p : Pc} {l : List Fl} (hl : ArgL l) (h : QkC p l = true) : Qcg p ∧ (∀ f ∈ l, OkF f) ∧ l.length ≤ 12 ∧ ∀ f ∈ l, Qaz p f = [] := by
 unfold QkC at h
 simp only [Bool.and_eq_true, Bool.not_eq_true', List.isEmpty_iff] at h
 obtain ⟨h1, h2, h3⟩ := h
 obtain ⟨b1, b2, b3, b4⟩ := Qnk h1
 have hc := QrE h3
 refine ⟨QkW (p := p) (by omega) h2, fun f hf => ?_, b1, hc⟩
 obtain ⟨c1, c2, c3, _⟩ := Qk3 (b4 f hf)
 obtain ⟨k1, k2, _⟩ := Qix (hc f hf)
 have hne : f.legs ≠ [] := fun e => by rw [e] at k2; simp at k2
 exact ⟨by cases hb : f.ln with | false => rfl | true => exact absurd ((hl.2 f hf).2 hb) hne, hne, by omega, by omega, fun x hx => by have := (c2 x hx).2.2; omega⟩
def QmF (r : Rv) : Bool := decide (r.eq.length ≤ 100) && !bigB pc0 ⟨r.car, 0, 0, 0, 0, r.ln, r.legs⟩
theorem Qsc (r : Rv) (hr : ArgR r) : Ret lb Qj2 [rvcv r] (.bool (QmF r)) := by
 have hb := Qok lb pc0 ⟨r.car, 0, 0, 0, 0, r.ln, r.legs⟩ hr.1 hr.2.2.1 hr.2.1 (by simp [pc0]) (by simp [pc0])
 refine .top rfl (hb.mono fun n h => ?_)
 rw [Que]
 unfold QmF
 by_cases h1 : r.eq.length ≤ 100
 ·rw [decT h1]
  exact stT (decT (by omega)) (stO _ h (stO _ rfl rfl))
 ·rw [decF h1]
  exact stF (decF (by omega)) rfl
theorem QxI {r : Rv} (h : QmF r = true) : OkR r ∧ r.legs.length ≤ 12 := by
 unfold QmF at h
 simp only [Bool.and_eq_true, Bool.not_eq_true', decide_eq_true_eq] at h
 obtain ⟨c1, c2, c3, _⟩ := Qk3 h.2
 exact ⟨⟨by have : r.car.length ≤ 400 := c1; omega, by omega, fun x hx => by have := (c2 x hx).2.2; omega⟩, c3⟩
theorem QnA {g z : Fl} : ∀ {P : List Fl}, z ∈ insF g P → z = g ∨ z ∈ P
 | [], h => by simp [insF] at h; exact .inl h
 | y :: t, h => by
  unfold insF at h
  split at h
  ·rcases List.mem_cons.1 h with h | h
   ·exact .inl h
   ·exact .inr h
  ·rcases List.mem_cons.1 h with h | h
   ·exact .inr (by rw [h]; simp)
   ·rcases QnA h with h | h
    ·exact .inl h
    ·exact .inr (by simp [h])
def From (r : Rv) (l : List Fl) (z : Fl) : Prop := z ∈ l ∨ (∃ f ∈ l, Qa2 f r = true ∧ z ∈ QaW f r) ∨ z ∈ newR r l
theorem QrW (r : Rv) : ∀ (l : List Fl) (z : Fl), z ∈ outR r l → From r l z
 | [], z, h => by simp [outR] at h
 | f :: t, z, h => by
  unfold outR at h
  rcases List.mem_append.1 h with h | h
  ·cases ht : Qa2 f r with
   | false => rw [ht] at h; simp at h; exact .inl (by simp [h])
   | true =>
    rw [ht] at h
    simp only [if_true] at h
    unfold QdI at h
    split at h
    ·exact .inr (.inl ⟨f, by simp, ht, h⟩)
    ·rename_i hk
     rcases QnA h with h | h
     ·exact .inr (.inr (by unfold newR; simp [ht, hk, h]))
     ·exact .inr (.inl ⟨f, by simp, ht, h⟩)
  ·rcases QrW r t z h with h | ⟨g, hg, h1, h2⟩ | h
   ·exact .inl (by simp [h])
   ·exact .inr (.inl ⟨g, by simp [hg], h1, h2⟩)
   ·exact .inr (.inr (by unfold newR; simp [h]))
theorem Qrq (r : Rv) : ∀ (l : List Fl) (z : Fl), z ∈ newR r l → ∃ f ∈ l, Qa2 f r = true ∧ z = QaE r f (qOf f r)
 | [], z, h => by simp [newR] at h
 | f :: t, z, h => by
  unfold newR at h
  rcases List.mem_append.1 h with h | h
  ·split at h
   ·rename_i hh
    simp only [Bool.and_eq_true] at hh
    exact ⟨f, by simp, hh.1, by simpa using h⟩
   ·simp at h
  ·obtain ⟨g, h1, h2, h3⟩ := Qrq r t z h
   exact ⟨g, by simp [h1], h2, h3⟩
theorem QuA {r : Rv} {f : Fl} {q : P3} (h1 : f.legs.length ≤ 100) (h2 : r.legs.length ≤ 100) : (QaE r f q).legs.length ≤ 100 := by
 unfold QaE
 split
 ·exact h2
 ·simpa using h1
theorem Qyr (p : Pc) (l : List Fl) (r : Rv) : (resF p l r).1.length ≤ 4 * l.length + 1 := by
 have h := QtC r l
 have hc : ∀ (out new : List Fl), (chkR p out new).1.length ≤ out.length := fun out new => by
  unfold chkR
  split <;> simp
 unfold resF
 split
 ·simp
 ·split
  ·simp
  ·split
   ·split
    ·have := hc (outR r l ++ [Qdy r]) (newR r l ++ [Qdy r])
     simp at this; omega
    ·simp
   ·split
    ·simp
    ·have := hc (outR r l) (newR r l); omega
end Go.Proofs
set_option linter.unusedSimpArgs false
set_option linter.unusedVariables false
namespace Go.Proofs
open Go.Am
variable (lb : Nat)
def SmR (r : Rv) : Prop := OkR r ∧ r.legs.length ≤ 12 ∧ (r.ln = true → r.legs = [])
theorem Qh4 {p : Pc} : ∀ {l : List Fl}, QcQ p l = none → ∀ g ∈ l, Qaz p g = []
 | [], _, g, hg => by simp at hg
 | x :: t, h, g, hg => by
  unfold QcQ at h
  cases hc : Qaz p x with
  | cons e s => rw [hc] at h; simp at h
  | nil =>
   rw [hc] at h
   rcases List.mem_cons.1 hg with rfl | hg
   ·exact hc
   ·exact Qh4 h g hg
theorem Qj9 {p : Pc} {f : Fl} (h : Qaz p f = []) : f.legs ≠ [] := fun e => by
 obtain ⟨_, k2, _⟩ := Qix h
 rw [e] at k2; simp at k2
theorem QuX {b : Bool} {l : List Lg} (h : b = true → l = []) (hne : l ≠ []) : b = false := by
 cases b with
 | false => rfl
 | true => exact absurd (h rfl) hne
theorem QyE {f : Fl} (hf : OkF f) (x : P3) : OkF (QiU f x) := ⟨hf.ln, hf.ne, hf.len, hf.car, hf.eq⟩
theorem Quv {p : Pc} {f : Fl} {r : Rv} (hf : OkF f) (hr : SmR r) (q : P3) (hc : Qaz p (QaE r f q) = []) : OkF (QaE r f q) := by
 obtain ⟨c1, c2⟩ := Qpa hf hr.1 q
 have hne := Qj9 hc
 refine ⟨?_, hne, QuA hf.len (by have := hr.2.1; omega), c1, c2⟩
 unfold QaE at hne ⊢
 by_cases h5 : r.kind = 5
 ·rw [if_pos h5] at hne ⊢
  exact QuX hr.2.2 hne
 ·rw [if_neg h5]
  show f.legs.isEmpty = false
  simpa using hf.ne
theorem Qy3 {p : Pc} {r : Rv} (hr : SmR r) (hc : Qaz p (Qdy r) = []) : OkF (Qdy r) :=
 ⟨QuX hr.2.2 (Qj9 (f := Qdy r) hc), Qj9 hc, by have := hr.2.1; show r.legs.length ≤ 100; omega, hr.1.car, hr.1.eq⟩
theorem QyC {p : Pc} {l : List Fl} {r : Rv} (hl : ∀ f ∈ l, OkF f) (hr : SmR r) : ∀ z ∈ (resF p l r).1, OkF z := by
 have ho : (∀ g ∈ newR r l, Qaz p g = []) → ∀ z ∈ outR r l, OkF z := fun hn z hz => by
  rcases QrW r l z hz with h | ⟨f, hf, _, h⟩ | h
  ·exact hl z h
  ·obtain ⟨x, _, rfl⟩ := List.mem_map.1 h
   exact QyE (hl f hf) x
  ·have hc := hn z h
   obtain ⟨f, hf, _, rfl⟩ := Qrq r l z h
   exact Quv (hl f hf) hr _ hc
 have hc : ∀ (out new : List Fl), ((∀ g ∈ new, Qaz p g = []) → ∀ z ∈ out, OkF z) → ∀ z ∈ (chkR p out new).1, OkF z := fun out new h z hz => by
  unfold chkR at hz
  cases hb : QcQ p new with
  | none => rw [hb] at hz; exact h (Qh4 hb) z hz
  | some e => rw [hb] at hz; simp at hz
 intro z hz
 unfold resF at hz
 split at hz
 ·simp at hz
 ·split at hz
  ·simp at hz
  ·split at hz
   ·split at hz
    ·refine hc _ _ (fun hn z hz => ?_) z hz
     rcases List.mem_append.1 hz with h | h
     ·exact ho (fun g hg => hn g (by simp [hg])) z h
     ·simp at h; subst h; exact Qy3 hr (hn (Qdy r) (by simp))
    ·simp at hz
   ·split at hz
    ·simp at hz
    ·exact hc _ _ ho z hz
def rvE (r : Rv) : List CV := [.int .i64 r.kind, .str r.car, .int .i64 r.num, .int .i64 r.fr, .int .i64 r.to, .int .i64 r.days, .int .i64 r.min, .str r.eq, .list r.ln (r.legs.map lgcv)]
end Go.Proofs
