/- Chapter 10 on plain data: the stable sort of a few flights by their first days (printed by mkns.py). Conditions: as each says. -/
import Derived.Test.YtdcpdknginpohaaGreatDoorVs
import Derived.Test.YtdcpdknginpohaaGreatDoorKB
import Derived.Test.YtdcpdknginpohaaGreatDoorNA
import Derived.Test.YtdcpdknginpohaaGreatDoorNh
import Derived.Test.YtdcpdknginpohaaGreatDoorKC
import Derived.Test.YtdcpdknginpohaaGreatDoorVd
import Derived.Test.YtdcpdknginpohaaGreatDoorW10
set_option linter.unusedSimpArgs false
set_option linter.unusedVariables false
set_option maxRecDepth 100000
namespace Go.Proofs
open Go.Am
variable (lb : Nat)
theorem Qtc {ι : Type} {f : FuncId} {args : ι → List CV} {r : ι → CV} (hL : L lb f = none) (h : Evt fun n => ∀ i, top lb n f (args i) = some (r i)) : Evt fun n => ∀ i, C lb n f (args i) = some (r i) := by
 obtain ⟨N, hN⟩ := h
 refine ⟨N + 1, fun n hn i => ?_⟩
 obtain ⟨m, rfl⟩ : ∃ m, n = m + 1 := ⟨n - 1, by omega⟩
 rw [Qyt lb m f (args i) hL]
 exact hN m (by omega) i
def cmpI (a b : Int) : Int := if a < b then -1 else if a > b then 1 else 0
theorem QsI : Evt fun n => ∀ a : Int, C lb n Qfd [.int .i64 a] = some (.bool false) := Qtc lb rfl (.all fun n a => by rw [Qo9]; simp)
theorem Qpy : Evt fun n => ∀ p : Int × Int, C lb n Qf3 [.int .i64 p.1, .int .i64 p.2] = some (.int .i64 (cmpI p.1 p.2)) := by
 refine Qtc lb rfl ((QsI lb).mono fun n h p => ?_)
 obtain ⟨a, b⟩ := p
 rw [Qnl]
 refine stO _ (h a) (stO _ (h b) (stO _ rfl (stF rfl (stO _ rfl (stF rfl ?_)))))
 unfold cmpI
 by_cases c : a < b
 ·rw [if_pos c]; exact stT (decT c) rfl
 ·rw [if_neg c]
  by_cases d : a > b
  ·rw [if_pos d]; exact stF (decF c) (stT (decT d) rfl)
  ·rw [if_neg d]; exact stF (decF c) (stF (decF d) rfl)
def flE (f : Fl) : List CV := [.str f.car, .int .i64 f.num, .int .i64 f.fr, .int .i64 f.to, .int .i64 f.days, .list f.ln (f.legs.map lgcv)]
def Cmp (n : Nat) : Prop := ∀ p : Fl × Fl, C lb n Qae [.agg (flE p.1), .agg (flE p.2)] = some (.int .i64 (cmpI p.1.fr p.2.fr))
theorem QyX : Evt fun n => Cmp lb n := by
 refine Qtc lb rfl ((Qpy lb).mono fun n h p => ?_)
 unfold flE
 rw [Qme]
 exact stO _ (h (p.1.fr, p.2.fr)) rfl
def insR (x : Fl) : List Fl → List Fl
 | [] => [x]
 | y :: r => if x.fr < y.fr then y :: insR x r else x :: y :: r
def QeS : List Fl → List Fl → List Fl
 | S, [] => S
 | S, x :: R => QeS (insR x S.reverse).reverse R
theorem QhA (x : Fl) : ∀ S : List Fl, (insR x S).length = S.length + 1
 | [] => rfl
 | y :: r => by
  unfold insR
  split
  ·simp [QhA x r]
  ·simp
theorem QmN : ∀ (R S : List Fl), (QeS S R).length = S.length + R.length
 | [], S => rfl
 | x :: R, S => by rw [QeS, QmN R]; simp [QhA]; omega
theorem Qrs {α : Type} (Q : List α) (x a : α) : ∀ P : List α, setN (P ++ x :: Q) P.length a = P ++ a :: Q
 | [] => rfl
 | p :: P => by
  show p :: setN (P ++ x :: Q) P.length a = _
  rw [Qrs Q x a P]; rfl
theorem Qrg {α : Type} (P Q : List α) (y x a : α) : setN (P ++ y :: x :: Q) (P.length + 1) a = P ++ y :: a :: Q := by
 have := Qrs Q x a (P ++ [y])
 simpa using this
theorem set2 {α : Type} (P Q : List α) (y x a b : α) : setN (setN (P ++ y :: x :: Q) (P.length + 1) a) P.length b = P ++ b :: a :: Q := by
 rw [Qrg, Qrs]
theorem Qgt (k : Nat) : 0 + ((k : Int)).toNat = k := by omega
theorem Qxs {k : Nat} (h : k ≤ 1000) : IntKind.wrap .i64 (((k + 1 : Nat) : Int) - 1) = (k : Int) := by
 rw [QaF (by omega) (by omega)]; omega
theorem QwK (n jn jO : Nat) (jN jk wl : Int) (jU : Bool) (jY : List (List CV)) (jX : Bool) (jV : List (List CV)) (jT : List UInt8) (jW jv ju js : Int) (jG : Bool) (jx : List (List CV)) (jr : Int) (jC : List UInt8) (jB jt jy jD jz : Int) (jF : List UInt8) (jA : Bool) (jE wo : List (List CV)) (wv wy wx ww wu wq : CV) (K : AV → List (List (Option (List AV))) → Option CV) (wJ : Nat) (wz : Int) (h0 : jk = 0) (hc : Cmp lb n) (x : Fl) : ∀ (P Q : List Fl) (k : Nat), P.length < k → jn = P.length + 1 + Q.length → jn ≤ 1000 →
  QbF lb n k jn jO jN jk wl jU jY jX jV jT jW jv ju js jG jx jr jC jB jt jy jD jz jF jA jE wo wv wy wx ww wu wq K wJ wz (P.length : Int) ((P.reverse ++ x :: Q).map flE) =
   Qbi lb n wJ jn jO jN jk wl jU jY jX jV jT jW jv ju js jG jx jr jC jB jt jy jD jz jF jA jE wo wv wy wx ww wu wq K (IntKind.wrap .i64 (wz + 1)) (((insR x P).reverse ++ Q).map flE)
 | [], Q, k, hk, hm, h1 => by
  obtain ⟨k, rfl⟩ : ∃ m, k = m + 1 := ⟨k - 1, by simp at hk; omega⟩
  rw [QcI]
  refine stF (decF (by subst h0; simp)) ?_
  rw [Qc2]
  rfl
 | y :: P, Q, k, hk, hm, h1 => by
  obtain ⟨k, rfl⟩ : ∃ m, k = m + 1 := ⟨k - 1, by simp at hk; omega⟩
  have hL : (P.reverse.map flE).length = P.length := by simp
  have e0 : ((y :: P).reverse ++ x :: Q).map flE = P.reverse.map flE ++ flE y :: flE x :: Q.map flE := by simp
  have e1 : (P.reverse.map flE ++ flE y :: flE x :: Q.map flE)[0 + (((y :: P).length : Int)).toNat]? = some (flE x) := by
   rw [Qgt, List.getElem?_append_right (by simp)]; simp
  have w1 : IntKind.wrap .i64 (((y :: P).length : Int) - 1) = (P.length : Int) := by
   rw [List.length_cons]; exact Qxs (by simp only [List.length_cons] at hm; omega)
  have e2 : (P.reverse.map flE ++ flE y :: flE x :: Q.map flE)[0 + ((P.length : Int)).toNat]? = some (flE y) := by
   rw [Qgt, List.getElem?_append_right (by simp)]; simp
  have b1 : (decide (0 ≤ (((y :: P).length : Nat) : Int)) && decide ((((y :: P).length : Nat) : Int) < ((jn : Nat) : Int))) = true := by
   rw [Bool.and_eq_true, decide_eq_true_eq, decide_eq_true_eq]; simp only [List.length_cons] at hm ⊢; omega
  have b2 : (decide (0 ≤ ((P.length : Nat) : Int)) && decide (((P.length : Nat) : Int) < ((jn : Nat) : Int))) = true := by
   rw [Bool.and_eq_true, decide_eq_true_eq, decide_eq_true_eq]; simp only [List.length_cons] at hm ⊢; omega
  rw [QcI, e0, w1]
  refine stT (decT (by subst h0; simp only [List.length_cons]; omega)) (stC b1 (stO _ e1 (stO _ rfl (stO _ rfl (stO _ rfl (stO _ rfl (stO _ rfl (stO _ rfl (stC b2 (stO _ e2 (stO _ rfl (stO _ rfl (stO _ rfl (stO _ rfl (stO _ rfl (stO _ rfl (stO _ (hc (x, y)) (stO _ (QaG ..) ?_))))))))))))))))))
  by_cases hlt : x.fr < y.fr
  ·have e3 : (setN (P.reverse.map flE ++ flE y :: flE x :: Q.map flE) (0 + (((y :: P).length : Int)).toNat) (flE y))[0 + ((P.length : Int)).toNat]? = some (flE y) := by
    have := Qrg (P.reverse.map flE) (Q.map flE) (flE y) (flE x) (flE y)
    rw [hL] at this
    rw [Qgt, Qgt, List.length_cons, this, List.getElem?_append_right (by simp)]
    simp [setN]
   refine stT (decT (by simp [cmpI, hlt])) (stC b2 (stO _ e2 (stO _ rfl (stO _ rfl (stO _ rfl (stO _ rfl (stO _ rfl (stO _ rfl (stC b1 (stO _ e1 (stO _ rfl (stO _ rfl (stO _ rfl (stO _ rfl (stO _ rfl (stO _ rfl (stC b1 (stO _ e1 (stC rfl (stC b2 (stO _ e3 (stC rfl ?_))))))))))))))))))))))
   have e4 : setN (setN (P.reverse.map flE ++ flE y :: flE x :: Q.map flE) (0 + (((y :: P).length : Int)).toNat) (flE y)) (0 + ((P.length : Int)).toNat) (flE x) = (P.reverse ++ x :: y :: Q).map flE := by
    have := set2 (P.reverse.map flE) (Q.map flE) (flE y) (flE x) (flE y) (flE x)
    rw [hL] at this
    rw [Qgt, Qgt, List.length_cons, this]; simp
   have ih := QwK n jn jO jN jk wl jU jY jX jV jT jW jv ju js jG jx jr jC jB jt jy jD jz jF jA jE wo wv wy wx ww wu wq K wJ wz h0 hc x P (y :: Q) k (by simp at hk; omega) (by simp at hm ⊢; omega) h1
   have e5 : (insR x (y :: P)).reverse ++ Q = (insR x P).reverse ++ y :: Q := by simp [insR, hlt]
   rw [e5]
   exact (congrArg _ e4).trans ih
  ·refine stF (decF (by unfold cmpI; rw [if_neg hlt]; split <;> omega)) ?_
   rw [Qc2]
   have e5 : (insR x (y :: P)).reverse ++ Q = P.reverse ++ y :: x :: Q := by simp [insR, hlt]
   rw [e5]
   simp
theorem Qve (n jn jO : Nat) (jN jk wl : Int) (jU : Bool) (jY : List (List CV)) (jX : Bool) (jV : List (List CV)) (jT : List UInt8) (jW jv ju js : Int) (jG : Bool) (jx : List (List CV)) (jr : Int) (jC : List UInt8) (jB jt jy jD jz : Int) (jF : List UInt8) (jA : Bool) (jE wo : List (List CV)) (wv wy wx ww wu wq : CV) (K : AV → List (List (Option (List AV))) → Option CV) (h0 : jk = 0) (hc : Cmp lb n) (hn : jn < n) (h3 : jN = (jn : Int)) : ∀ (R S : List Fl) (k : Nat), R.length < k → jn = S.length + R.length → jn ≤ 1000 →
  Qbi lb n k jn jO jN jk wl jU jY jX jV jT jW jv ju js jG jx jr jC jB jt jy jD jz jF jA jE wo wv wy wx ww wu wq K (S.length : Int) ((S ++ R).map flE) =
   QbB lb n n K jn jO jN jk jU jY jX jV jT jW jv ju js jG jx jr jC jB jt jy jD jz jF jA jE wv wy wx ww wu wq 20 jk wl ((QeS S R).map flE)
 | [], S, k, hk, hm, h1 => by
  obtain ⟨k, rfl⟩ : ∃ m, k = m + 1 := ⟨k - 1, by simp at hk; omega⟩
  rw [QcG]
  refine stF (decF (by simp at hm; omega)) ?_
  rw [List.append_nil]; rfl
 | x :: R, S, k, hk, hm, h1 => by
  obtain ⟨k, rfl⟩ : ∃ m, k = m + 1 := ⟨k - 1, by simp at hk; omega⟩
  rw [QcG]
  refine stT (decT (by simp at hm; omega)) ?_
  have ih := Qve n jn jO jN jk wl jU jY jX jV jT jW jv ju js jG jx jr jC jB jt jy jD jz jF jA jE wo wv wy wx ww wu wq K h0 hc hn h3 R (insR x S.reverse).reverse k (by simp at hk; omega) (by simp [QhA] at hm ⊢; omega) h1
  have w1 : IntKind.wrap .i64 ((S.length : Int) + 1) = (((insR x S.reverse).reverse.length : Nat) : Int) := by
   rw [QaF (by simp at hm; omega) (by simp at hm; omega)]; simp [QhA]
  have st := QwK lb n jn jO jN jk wl jU jY jX jV jT jW jv ju js jG jx jr jC jB jt jy jD jz jF jA jE wo wv wy wx ww wu wq K k (S.length : Int) h0 hc x S.reverse R n (by simp at hm ⊢; omega) (by simp at hm ⊢; omega) h1
  rw [List.reverse_reverse, List.length_reverse, w1] at st
  exact st.trans ih
theorem Qvs (n : Nat) (K : AV → List (List (Option (List AV))) → Option CV) (jn jO : Nat) (jN : Int) (jU : Bool) (jY : List (List CV)) (jX : Bool) (jV : List (List CV)) (jT : List UInt8) (jW jv ju js : Int) (jG : Bool) (jx : List (List CV)) (jr : Int) (jC : List UInt8) (jB jt jy jD jz : Int) (jF : List UInt8) (jA : Bool) (jE : List (List CV)) (wv wy wx ww wu wq : CV) (jk : Int) (h0 : jk = 0) (hc : Cmp lb n) (hn : jn < n) (h3 : jN = (jn : Int)) (R : List Fl) (x : Fl) (hm : jn = R.length + 1) (h1 : jn ≤ 19) :
  Qb6 lb n n K jn jO jN jU jY jX jV jT jW jv ju js jG jx jr jC jB jt jy jD jz jF jA jE wv wy wx ww wu wq jk 20 ((x :: R).map flE) =
   QbB lb n n K jn jO jN jk jU jY jX jV jT jW jv ju js jG jx jr jC jB jt jy jD jz jF jA jE wv wy wx ww wu wq 20 jk 20 ((QeS [x] R).map flE) := by
 obtain ⟨m, rfl⟩ : ∃ m, n = m + 1 := ⟨n - 1, by omega⟩
 have w : IntKind.wrap .i64 (jk + 1) = (([x].length : Nat) : Int) := by subst h0; rfl
 rw [QeD]
 refine stF (decF (by omega)) ?_
 rw [Qe1, w]
 exact Qve lb (m + 1) _ _ _ _ _ _ _ _ _ _ _ _ _ _ _ _ _ _ _ _ _ _ _ _ _ _ _ _ _ _ _ _ _ _ h0 hc hn h3 R [x] (m + 1) (by omega) (by simp; omega) (by omega)
theorem Qvf (n jn jO : Nat) (jN jk wl : Int) (jU : Bool) (jY : List (List CV)) (jX : Bool) (jV : List (List CV)) (jT : List UInt8) (jW jv ju js : Int) (jG : Bool) (jx : List (List CV)) (jr : Int) (jC : List UInt8) (jB jt jy jD jz : Int) (jF : List UInt8) (jA : Bool) (jE wo : List (List CV)) (K : AV → List (List (Option (List AV))) → Option CV) (wJ : Nat) (wz : Int) (h0 : jk = 0) (hc : Cmp lb n) (x : Fl) : ∀ (P Q : List Fl) (k : Nat), P.length < k → jn = P.length + 1 + Q.length → jn ≤ 1000 →
  Qbv lb n k jn jO jN jk wl jU jY jX jV jT jW jv ju js jG jx jr jC jB jt jy jD jz jF jA jE wo K wJ wz (P.length : Int) ((P.reverse ++ x :: Q).map flE) =
   Qbd lb n wJ jn jO jN jk wl jU jY jX jV jT jW jv ju js jG jx jr jC jB jt jy jD jz jF jA jE wo K (IntKind.wrap .i64 (wz + 1)) (((insR x P).reverse ++ Q).map flE)
 | [], Q, k, hk, hm, h1 => by
  obtain ⟨k, rfl⟩ : ∃ m, k = m + 1 := ⟨k - 1, by simp at hk; omega⟩
  rw [Qcz]
  refine stF (decF (by subst h0; simp)) ?_
  rw [QcJ]
  rfl
 | y :: P, Q, k, hk, hm, h1 => by
  obtain ⟨k, rfl⟩ : ∃ m, k = m + 1 := ⟨k - 1, by simp at hk; omega⟩
  have hL : (P.reverse.map flE).length = P.length := by simp
  have e0 : ((y :: P).reverse ++ x :: Q).map flE = P.reverse.map flE ++ flE y :: flE x :: Q.map flE := by simp
  have e1 : (P.reverse.map flE ++ flE y :: flE x :: Q.map flE)[0 + (((y :: P).length : Int)).toNat]? = some (flE x) := by
   rw [Qgt, List.getElem?_append_right (by simp)]; simp
  have w1 : IntKind.wrap .i64 (((y :: P).length : Int) - 1) = (P.length : Int) := by
   rw [List.length_cons]; exact Qxs (by simp only [List.length_cons] at hm; omega)
  have e2 : (P.reverse.map flE ++ flE y :: flE x :: Q.map flE)[0 + ((P.length : Int)).toNat]? = some (flE y) := by
   rw [Qgt, List.getElem?_append_right (by simp)]; simp
  have b1 : (decide (0 ≤ (((y :: P).length : Nat) : Int)) && decide ((((y :: P).length : Nat) : Int) < ((jn : Nat) : Int))) = true := by
   rw [Bool.and_eq_true, decide_eq_true_eq, decide_eq_true_eq]; simp only [List.length_cons] at hm ⊢; omega
  have b2 : (decide (0 ≤ ((P.length : Nat) : Int)) && decide (((P.length : Nat) : Int) < ((jn : Nat) : Int))) = true := by
   rw [Bool.and_eq_true, decide_eq_true_eq, decide_eq_true_eq]; simp only [List.length_cons] at hm ⊢; omega
  rw [Qcz, e0, w1]
  refine stT (decT (by subst h0; simp only [List.length_cons]; omega)) (stC b1 (stO _ e1 (stO _ rfl (stO _ rfl (stO _ rfl (stO _ rfl (stO _ rfl (stO _ rfl (stC b2 (stO _ e2 (stO _ rfl (stO _ rfl (stO _ rfl (stO _ rfl (stO _ rfl (stO _ rfl (stO _ (hc (x, y)) (stO _ (QaG ..) ?_))))))))))))))))))
  by_cases hlt : x.fr < y.fr
  ·have e3 : (setN (P.reverse.map flE ++ flE y :: flE x :: Q.map flE) (0 + (((y :: P).length : Int)).toNat) (flE y))[0 + ((P.length : Int)).toNat]? = some (flE y) := by
    have := Qrg (P.reverse.map flE) (Q.map flE) (flE y) (flE x) (flE y)
    rw [hL] at this
    rw [Qgt, Qgt, List.length_cons, this, List.getElem?_append_right (by simp)]
    simp [setN]
   refine stT (decT (by simp [cmpI, hlt])) (stC b2 (stO _ e2 (stO _ rfl (stO _ rfl (stO _ rfl (stO _ rfl (stO _ rfl (stO _ rfl (stC b1 (stO _ e1 (stO _ rfl (stO _ rfl (stO _ rfl (stO _ rfl (stO _ rfl (stO _ rfl (stC b1 (stO _ e1 (stC rfl (stC b2 (stO _ e3 (stC rfl ?_))))))))))))))))))))))
   have e4 : setN (setN (P.reverse.map flE ++ flE y :: flE x :: Q.map flE) (0 + (((y :: P).length : Int)).toNat) (flE y)) (0 + ((P.length : Int)).toNat) (flE x) = (P.reverse ++ x :: y :: Q).map flE := by
    have := set2 (P.reverse.map flE) (Q.map flE) (flE y) (flE x) (flE y) (flE x)
    rw [hL] at this
    rw [Qgt, Qgt, List.length_cons, this]; simp
   have ih := Qvf n jn jO jN jk wl jU jY jX jV jT jW jv ju js jG jx jr jC jB jt jy jD jz jF jA jE wo K wJ wz h0 hc x P (y :: Q) k (by simp at hk; omega) (by simp at hm ⊢; omega) h1
   have e5 : (insR x (y :: P)).reverse ++ Q = (insR x P).reverse ++ y :: Q := by simp [insR, hlt]
   rw [e5]
   exact (congrArg _ e4).trans ih
  ·refine stF (decF (by unfold cmpI; rw [if_neg hlt]; split <;> omega)) ?_
   rw [QcJ]
   have e5 : (insR x (y :: P)).reverse ++ Q = P.reverse ++ y :: x :: Q := by simp [insR, hlt]
   rw [e5]
   simp
theorem QtP (n jn jO : Nat) (jN jk wl : Int) (jU : Bool) (jY : List (List CV)) (jX : Bool) (jV : List (List CV)) (jT : List UInt8) (jW jv ju js : Int) (jG : Bool) (jx : List (List CV)) (jr : Int) (jC : List UInt8) (jB jt jy jD jz : Int) (jF : List UInt8) (jA : Bool) (jE wo : List (List CV)) (K : AV → List (List (Option (List AV))) → Option CV) (h0 : jk = 0) (hc : Cmp lb n) (hn : jn < n) (h3 : jN = (jn : Int)) : ∀ (R S : List Fl) (k : Nat), R.length < k → jn = S.length + R.length → jn ≤ 1000 →
  Qbd lb n k jn jO jN jk wl jU jY jX jV jT jW jv ju js jG jx jr jC jB jt jy jD jz jF jA jE wo K (S.length : Int) ((S ++ R).map flE) =
   Qbw lb n n K jn jO jN jk jU jY jX jV jT jW jv ju js jG jx jr jC jB jt jy jD jz jF jA jE 20 jk wl ((QeS S R).map flE)
 | [], S, k, hk, hm, h1 => by
  obtain ⟨k, rfl⟩ : ∃ m, k = m + 1 := ⟨k - 1, by simp at hk; omega⟩
  rw [QcA]
  refine stF (decF (by simp at hm; omega)) ?_
  rw [List.append_nil]; rfl
 | x :: R, S, k, hk, hm, h1 => by
  obtain ⟨k, rfl⟩ : ∃ m, k = m + 1 := ⟨k - 1, by simp at hk; omega⟩
  rw [QcA]
  refine stT (decT (by simp at hm; omega)) ?_
  have ih := QtP n jn jO jN jk wl jU jY jX jV jT jW jv ju js jG jx jr jC jB jt jy jD jz jF jA jE wo K h0 hc hn h3 R (insR x S.reverse).reverse k (by simp at hk; omega) (by simp [QhA] at hm ⊢; omega) h1
  have w1 : IntKind.wrap .i64 ((S.length : Int) + 1) = (((insR x S.reverse).reverse.length : Nat) : Int) := by
   rw [QaF (by simp at hm; omega) (by simp at hm; omega)]; simp [QhA]
  have st := Qvf lb n jn jO jN jk wl jU jY jX jV jT jW jv ju js jG jx jr jC jB jt jy jD jz jF jA jE wo K k (S.length : Int) h0 hc x S.reverse R n (by simp at hm ⊢; omega) (by simp at hm ⊢; omega) h1
  rw [List.reverse_reverse, List.length_reverse, w1] at st
  exact st.trans ih
theorem Qx9 (n : Nat) (K : AV → List (List (Option (List AV))) → Option CV) (jn jO : Nat) (jN : Int) (jU : Bool) (jY : List (List CV)) (jX : Bool) (jV : List (List CV)) (jT : List UInt8) (jW jv ju js : Int) (jG : Bool) (jx : List (List CV)) (jr : Int) (jC : List UInt8) (jB jt jy jD jz : Int) (jF : List UInt8) (jA : Bool) (jE : List (List CV)) (jk : Int) (h0 : jk = 0) (hc : Cmp lb n) (hn : jn < n) (h3 : jN = (jn : Int)) (R : List Fl) (x : Fl) (hm : jn = R.length + 1) (h1 : jn ≤ 19) :
  QbX lb n n K jn jO jN jU jY jX jV jT jW jv ju js jG jx jr jC jB jt jy jD jz jF jA jE jk 20 ((x :: R).map flE) =
   Qbw lb n n K jn jO jN jk jU jY jX jV jT jW jv ju js jG jx jr jC jB jt jy jD jz jF jA jE 20 jk 20 ((QeS [x] R).map flE) := by
 obtain ⟨m, rfl⟩ : ∃ m, n = m + 1 := ⟨n - 1, by omega⟩
 have w : IntKind.wrap .i64 (jk + 1) = (([x].length : Nat) : Int) := by subst h0; rfl
 rw [Qec]
 refine stF (decF (by omega)) ?_
 rw [QeC, w]
 exact QtP lb (m + 1) _ _ _ _ _ _ _ _ _ _ _ _ _ _ _ _ _ _ _ _ _ _ _ _ _ _ _ _ h0 hc hn h3 R [x] (m + 1) (by omega) (by simp; omega) (by omega)
end Go.Proofs
set_option linter.unusedSimpArgs false
set_option linter.unusedVariables false
namespace Go.Proofs
open Go.Am
variable (lb : Nat)
def Qjq (f : Fl) (x : P3) : Fl := { f with fr := x.1, to := x.2.1, days := x.2.2 }
def wF (f : Fl) (r : Rv) : List P3 := Qcm f.fr f.to f.days r.fr r.to r.days
def Qa3 (f : Fl) (r : Rv) : List Fl := (wF f r).map (Qjq f)
def insF (g : Fl) : List Fl → List Fl
 | [] => [g]
 | y :: t => if g.fr < y.fr then g :: y :: t else y :: insF g t
def idxF (g : Fl) : List Fl → Nat
 | [] => 0
 | y :: t => if g.fr < y.fr then 0 else idxF g t + 1
theorem QnE (g : Fl) : ∀ P : List Fl, (insF g P).length = P.length + 1
 | [] => rfl
 | y :: t => by
  unfold insF
  split
  ·simp
  ·simp [QnE g t]
theorem Qvu (g : Fl) : ∀ A B : List Fl, (∀ y ∈ A, y.fr ≤ g.fr) → (∀ y ∈ B, g.fr < y.fr) → insF g (A ++ B) = A ++ g :: B
 | [], [], _, _ => rfl
 | [], y :: B, _, hB => by
  show insF g (y :: B) = _
  unfold insF
  rw [if_pos (hB y (by simp))]; rfl
 | y :: A, B, hA, hB => by
  show insF g (y :: (A ++ B)) = _
  have h := hA y (by simp)
  unfold insF
  rw [if_neg (by omega), Qvu g A B (fun z hz => hA z (by simp [hz])) hB]; rfl
theorem Qps (g : Fl) (M : List Fl) : ∀ L : List Fl, (∀ y ∈ L, g.fr < y.fr) → insR g (L ++ M) = L ++ insR g M
 | [], _ => rfl
 | y :: L, h => by
  show (if g.fr < y.fr then y :: insR g (L ++ M) else g :: y :: (L ++ M)) = _
  rw [if_pos (h y (by simp)), Qps g M L (fun z hz => h z (by simp [hz]))]; rfl
theorem Qtm (g : Fl) : ∀ M : List Fl, (∀ y ∈ M, y.fr ≤ g.fr) → insR g M = g :: M
 | [], _ => rfl
 | y :: M, h => by
  have := h y (by simp)
  unfold insR
  rw [if_neg (by omega)]
theorem Qxn (g : Fl) : ∀ P : List Fl, P.Pairwise (fun a b => a.fr ≤ b.fr) → ∃ A B, P = A ++ B ∧ (∀ y ∈ A, y.fr ≤ g.fr) ∧ ∀ y ∈ B, g.fr < y.fr
 | [], _ => ⟨[], [], rfl, by simp, by simp⟩
 | y :: t, h => by
  rw [List.pairwise_cons] at h
  by_cases hy : g.fr < y.fr
  ·refine ⟨[], y :: t, rfl, by simp, fun z hz => ?_⟩
   rcases List.mem_cons.1 hz with rfl | hz
   ·exact hy
   ·have := h.1 z hz; omega
  ·obtain ⟨A, B, e, hA, hB⟩ := Qxn g t h.2
   refine ⟨y :: A, B, by rw [e]; rfl, fun z hz => ?_, hB⟩
   rcases List.mem_cons.1 hz with rfl | hz
   ·omega
   ·exact hA z hz
theorem QwA (g : Fl) (P : List Fl) (h : P.Pairwise (fun a b => a.fr ≤ b.fr)) : (insR g P.reverse).reverse = insF g P := by
 obtain ⟨A, B, rfl, hA, hB⟩ := Qxn g P h
 rw [Qvu g A B hA hB, List.reverse_append, Qps g _ B.reverse (fun y hy => hB y (by simpa using hy)), Qtm g _ (fun y hy => hA y (by simpa using hy))]
 simp
theorem Qmt : ∀ (R S T : List Fl), (S ++ R).Pairwise (fun a b => a.fr ≤ b.fr) → QeS S (R ++ T) = QeS (S ++ R) T
 | [], S, T, _ => by simp
 | x :: R, S, T, h => by
  have hS : ∀ y ∈ S, y.fr ≤ x.fr := fun y hy => (List.pairwise_append.1 h).2.2 y hy x (by simp)
  show QeS (insR x S.reverse).reverse (R ++ T) = _
  rw [Qtm x _ (fun y hy => hS y (by simpa using hy))]
  have e : (x :: S.reverse).reverse = S ++ [x] := by simp
  rw [e, Qmt R (S ++ [x]) T (by simpa using h)]
  simp
def QsZ : List Fl → List Fl
 | [] => []
 | x :: R => QeS [x] R
theorem Qwy (P : List Fl) (h : P.Pairwise (fun a b => a.fr ≤ b.fr)) : QsZ P = P := by
 cases P with
 | nil => rfl
 | cons x R =>
  have := Qmt R [x] [] (by simpa using h)
  rw [List.append_nil] at this
  show QeS [x] R = _
  rw [this]; rfl
theorem QwN (P : List Fl) (g : Fl) (h : P.Pairwise (fun a b => a.fr ≤ b.fr)) : QsZ (P ++ [g]) = insF g P := by
 cases P with
 | nil => rfl
 | cons x R =>
  have := Qmt R [x] [g] (by simpa using h)
  show QeS [x] (R ++ [g]) = _
  rw [this]
  exact QwA g (x :: R) h
theorem Qx5 {l : List Int} {x : P3} (h : ofF l = some x) : x.1 ∈ l := by
 cases l with
 | nil => cases h
 | cons a r => cases h; simp
theorem QwT (f : Fl) (r : Rv) : (Qa3 f r).Pairwise (fun a b => a.fr ≤ b.fr) := by
 have key : (wF f r).Pairwise (fun a b => a.1 ≤ b.1) := by
  unfold wF Qcm Qim
  split
  ·rename_i h
   obtain ⟨b0, b1, b2, b3, b4, b5⟩ := QcR h
   have m1 : ∀ (lo hi : Int) (x : P3), ofF ((Qar f.fr f.to f.days).filter (Qfc lo hi r.fr r.to r.days)) = some x → lo ≤ x.1 ∧ x.1 ≤ hi := fun lo hi x hx => by
    have := (List.mem_filter.1 (Qx5 hx)).2
    unfold Qfc at this
    simp only [Bool.and_eq_true, decide_eq_true_eq] at this
    omega
   have a1 := m1 0 (r.fr - 1)
   have a2 := m1 r.fr r.to
   have a3 := m1 (r.to + 1) 36525
   simp only [List.filterMap_cons, List.filterMap_nil]
   generalize ofF ((Qar f.fr f.to f.days).filter (Qfc 0 (r.fr - 1) r.fr r.to r.days)) = o1 at a1
   generalize ofF ((Qar f.fr f.to f.days).filter (Qfc r.fr r.to r.fr r.to r.days)) = o2 at a2
   generalize ofF ((Qar f.fr f.to f.days).filter (Qfc (r.to + 1) 36525 r.fr r.to r.days)) = o3 at a3
   cases o1 with
   | none =>
    cases o2 with
    | none => cases o3 <;> simp
    | some y =>
     have c2 := a2 y rfl
     cases o3 with
     | none => simp
     | some z => have c3 := a3 z rfl; simp; omega
   | some x =>
    have c1 := a1 x rfl
    cases o2 with
    | none =>
     cases o3 with
     | none => simp
     | some z => have c3 := a3 z rfl; simp; omega
    | some y =>
     have c2 := a2 y rfl
     cases o3 with
     | none => simp; omega
     | some z => have c3 := a3 z rfl; simp; omega
  ·simp only [List.filterMap_cons, List.filterMap_nil]
   cases ofF (Qar f.fr f.to f.days) <;> simp
 unfold Qa3
 rw [List.pairwise_map]
 exact key
theorem Qh6 (f : Fl) (r : Rv) : (wF f r).length ≤ 3 := by
 unfold wF Qcm
 exact Nat.le_trans (List.length_filterMap_le _ _) (Qw4 f.fr f.to f.days r.fr r.to r.days).1
def wcv (l : List P3) : CV := .list l.isEmpty (pl3 l)
def QdL (f : Fl) (r : Rv) (q : P3) : List Fl × Int :=
 if r.kind = 2 then (Qa3 f r, -1) else (insF (QaI r f q) (Qa3 f r), (idxF (QaI r f q) (Qa3 f r) : Nat))
end Go.Proofs
set_option linter.unusedSimpArgs false
set_option linter.unusedVariables false
set_option maxRecDepth 100000
namespace Go.Proofs
open Go.Am
variable (lb : Nat)
theorem QxS (lb n : Nat) : Qpx Tryz.prog KK (L lb) (n + 30) Qaq [.list true [], .fn Qae] = some (.tup []) := by kernel_rfl
theorem Qtf : Ret lb Qaq [.list true [], .fn Qae] (.tup []) := Evt.from 30 fun n => by
 show Qdg Tryz.prog KK (L lb) (n + 30) Qaq _ = _
 rw [Qtq]
 exact QxS lb n
def Qcd (p : Pc) (f : Fl) (r : Rv) (q : P3) : List Fl × Int :=
 if r.kind = 2 then (Qa3 f r, 0) else match QaE p (QaI r f q) with
  | e :: _ => ([], e.1)
  | [] => (insF (QaI r f q) (Qa3 f r), 0)
def QeZ (x : List Fl × Int) : CV := .tup [.list x.1.isEmpty (x.1.map flE), .int .i64 x.2]
theorem QxN (n : Nat) (p : Pc) (f : Fl) (r : Rv) (hc : Cmp lb n) (P : List Fl) (g : Fl) (hP : P.length ≤ 10) (hn : P.length + 1 < n) (hP0 : P ≠ []) (ol : CV) :
  Qbo lb n (Qer lb n P.length p.an (p.aps.map apcv) p.dn (p.dis.map dicv) f.car f.num f.fr f.to f.days f.ln (f.legs.map lgcv) r.kind r.car r.num r.fr r.to r.days r.min r.eq r.ln (r.legs.map lgcv) (P.map flE) (.str g.car) (.int .i64 g.num) (.int .i64 g.fr) (.int .i64 g.to) (.int .i64 g.days) (.list g.ln (g.legs.map lgcv)) ol) (P.length + 1) (P.length + 1) ((P.length + 1 : Nat) : Int) p.an (p.aps.map apcv) p.dn (p.dis.map dicv) f.car f.num f.fr f.to f.days f.ln (f.legs.map lgcv) r.kind r.car r.num r.fr r.to r.days r.min r.eq r.ln (r.legs.map lgcv) (P.map flE ++ [[.str g.car, .int .i64 g.num, .int .i64 g.fr, .int .i64 g.to, .int .i64 g.days, .list g.ln (g.legs.map lgcv)]]) (.str g.car) (.int .i64 g.num) (.int .i64 g.fr) (.int .i64 g.to) (.int .i64 g.days) (.list g.ln (g.legs.map lgcv)) =
   some (.tup [.list false ((QsZ (P ++ [g])).map flE), .int .i64 0]) := by
 obtain ⟨x, R, rfl⟩ : ∃ x R, P = x :: R := by cases P with | nil => exact absurd rfl hP0 | cons x R => exact ⟨x, R, rfl⟩
 obtain ⟨m, rfl⟩ : ∃ m, n = m + 1 := ⟨n - 1, by omega⟩
 rw [Qdb]
 have st := Qvs lb (m + 1) (K := Qer lb (m + 1) (x :: R).length p.an (p.aps.map apcv) p.dn (p.dis.map dicv) f.car f.num f.fr f.to f.days f.ln (f.legs.map lgcv) r.kind r.car r.num r.fr r.to r.days r.min r.eq r.ln (r.legs.map lgcv) ((x :: R).map flE) (.str g.car) (.int .i64 g.num) (.int .i64 g.fr) (.int .i64 g.to) (.int .i64 g.days) (.list g.ln (g.legs.map lgcv)) ol)
  ((x :: R).length + 1) ((x :: R).length + 1) (((x :: R).length + 1 : Nat) : Int) p.an (p.aps.map apcv) p.dn (p.dis.map dicv) f.car f.num f.fr f.to f.days f.ln (f.legs.map lgcv) r.kind r.car r.num r.fr r.to r.days r.min r.eq r.ln (r.legs.map lgcv) (.str g.car) (.int .i64 g.num) (.int .i64 g.fr) (.int .i64 g.to) (.int .i64 g.days) (.list g.ln (g.legs.map lgcv)) 0 rfl hc (by omega) rfl (R ++ [g]) x (by simp) (by simp at hP ⊢; omega)
 have e : (x :: R).map flE ++ [[CV.str g.car, .int .i64 g.num, .int .i64 g.fr, .int .i64 g.to, .int .i64 g.days, .list g.ln (g.legs.map lgcv)]] = (x :: (R ++ [g])).map flE := by simp [flE]
 rw [e, st, QcH]
 refine stF (decF (by simp at hP ⊢; omega)) ?_
 rw [Qlr]
 have hl : (QeS [x] (R ++ [g])).length = (x :: R).length + 1 := by rw [QmN]; simp; omega
 refine stC (decT (by rw [List.length_map, hl]; omega)) ?_
 rw [List.drop_zero, List.take_of_length_le (by rw [List.length_map, hl]; exact Nat.le_refl _)]
 rfl
 all_goals exact false
theorem QxT (n : Nat) (p : Pc) (f : Fl) (r : Rv) (hc : Cmp lb n) (P : List Fl) (hP : P.length ≤ 10) (hn : P.length + 1 < n) (hP0 : P ≠ []) :
  Qcc lb n (Qeg lb n P.length P.length p.an (p.aps.map apcv) p.dn (p.dis.map dicv) f.car f.num f.fr f.to f.days f.ln (f.legs.map lgcv) r.kind r.car r.num r.fr r.to r.days r.min r.eq r.ln (r.legs.map lgcv) (P.map flE)) P.length P.length ((P.length : Nat) : Int) p.an (p.aps.map apcv) p.dn (p.dis.map dicv) f.car f.num f.fr f.to f.days f.ln (f.legs.map lgcv) r.kind r.car r.num r.fr r.to r.days r.min r.eq r.ln (r.legs.map lgcv) (P.map flE) =
   some (.tup [.list false ((QsZ P).map flE), .int .i64 0]) := by
 obtain ⟨x, R, rfl⟩ : ∃ x R, P = x :: R := by cases P with | nil => exact absurd rfl hP0 | cons x R => exact ⟨x, R, rfl⟩
 obtain ⟨m, rfl⟩ : ∃ m, n = m + 1 := ⟨n - 1, by omega⟩
 rw [Qe0]
 have st := Qx9 lb (m + 1) (K := Qeg lb (m + 1) (x :: R).length (x :: R).length p.an (p.aps.map apcv) p.dn (p.dis.map dicv) f.car f.num f.fr f.to f.days f.ln (f.legs.map lgcv) r.kind r.car r.num r.fr r.to r.days r.min r.eq r.ln (r.legs.map lgcv) ((x :: R).map flE))
  (x :: R).length (x :: R).length (((x :: R).length : Nat) : Int) p.an (p.aps.map apcv) p.dn (p.dis.map dicv) f.car f.num f.fr f.to f.days f.ln (f.legs.map lgcv) r.kind r.car r.num r.fr r.to r.days r.min r.eq r.ln (r.legs.map lgcv) 0 rfl hc (by omega) rfl R x (by simp) (by simp at hP ⊢; omega)
 rw [st, Qed]
 refine stF (decF (by simp at hP ⊢; omega)) ?_
 rw [Qln]
 have hl : (QeS [x] R).length = (x :: R).length := by rw [QmN]; simp; omega
 refine stC (decT (by rw [List.length_map, hl]; omega)) ?_
 rw [List.drop_zero, List.take_of_length_le (by rw [List.length_map, hl]; omega)]
 rfl
 all_goals exact false
theorem QxI (n : Nat) (p : Pc) (f : Fl) (r : Rv) (hc : Cmp lb n) (g : Fl) (hn : 2 < n) (om : CV) :
  Qbo lb n (Qef lb n p.an (p.aps.map apcv) p.dn (p.dis.map dicv) f.car f.num f.fr f.to f.days f.ln (f.legs.map lgcv) r.kind r.car r.num r.fr r.to r.days r.min r.eq r.ln (r.legs.map lgcv) (.str g.car) (.int .i64 g.num) (.int .i64 g.fr) (.int .i64 g.to) (.int .i64 g.days) (.list g.ln (g.legs.map lgcv)) om) 1 1 1 p.an (p.aps.map apcv) p.dn (p.dis.map dicv) f.car f.num f.fr f.to f.days f.ln (f.legs.map lgcv) r.kind r.car r.num r.fr r.to r.days r.min r.eq r.ln (r.legs.map lgcv) [[.str g.car, .int .i64 g.num, .int .i64 g.fr, .int .i64 g.to, .int .i64 g.days, .list g.ln (g.legs.map lgcv)]] (.str g.car) (.int .i64 g.num) (.int .i64 g.fr) (.int .i64 g.to) (.int .i64 g.days) (.list g.ln (g.legs.map lgcv)) =
   some (.tup [.list false ([g].map flE), .int .i64 0]) := by
 obtain ⟨m, rfl⟩ : ∃ m, n = m + 1 := ⟨n - 1, by omega⟩
 rw [Qdb]
 have st := Qvs lb (m + 1) (K := Qef lb (m + 1) p.an (p.aps.map apcv) p.dn (p.dis.map dicv) f.car f.num f.fr f.to f.days f.ln (f.legs.map lgcv) r.kind r.car r.num r.fr r.to r.days r.min r.eq r.ln (r.legs.map lgcv) (.str g.car) (.int .i64 g.num) (.int .i64 g.fr) (.int .i64 g.to) (.int .i64 g.days) (.list g.ln (g.legs.map lgcv)) om)
  1 1 1 p.an (p.aps.map apcv) p.dn (p.dis.map dicv) f.car f.num f.fr f.to f.days f.ln (f.legs.map lgcv) r.kind r.car r.num r.fr r.to r.days r.min r.eq r.ln (r.legs.map lgcv) (.str g.car) (.int .i64 g.num) (.int .i64 g.fr) (.int .i64 g.to) (.int .i64 g.days) (.list g.ln (g.legs.map lgcv)) 0 rfl hc (by omega) rfl [] g (by simp) (by omega)
 have e : [[CV.str g.car, .int .i64 g.num, .int .i64 g.fr, .int .i64 g.to, .int .i64 g.days, .list g.ln (g.legs.map lgcv)]] = (g :: []).map flE := by simp [flE]
 rw [e, st, QcH]
 refine stF (decF (by omega)) ?_
 rw [QlG]
 exact stC rfl rfl
 all_goals exact false
theorem Qx7 (n : Nat) (p : Pc) (f : Fl) (r : Rv) (q : P3) (hc : Cmp lb n) (hn : 2 < n) (hw : Qa3 f r = [])
  (h1 : r.kind ≠ 2 → C lb n Qav [flcv f, rvcv r] = some (flcv (QaI r f q)))
  (h2 : C lb n Qak [pcv p, flcv (QaI r f q)] = some (QbV (QaE p (QaI r f q))))
  (h3 : C lb n Qaq [.list true [], .fn Qae] = some (.tup [])) :
  Qf2 lb n p.an (p.aps.map apcv) p.dn (p.dis.map dicv) f.car f.num f.fr f.to f.days f.ln (f.legs.map lgcv) r.kind r.car r.num r.fr r.to r.days r.min r.eq r.ln (r.legs.map lgcv) = some (QeZ (Qcd p f r q)) := by
 rw [QlI]
 unfold Qcd
 by_cases hk : r.kind = 2
 ·rw [if_pos hk, hw]
  exact stF (bneF hk) (stO _ h3 rfl)
 ·rw [if_neg hk, hw]
  have h1 := h1 hk
  generalize QaI r f q = g at h1 h2
  refine stT (bneT hk) (stO _ h1 (stO _ rfl (stC rfl (stO _ rfl (stO _ rfl (stO _ rfl (stO _ rfl (stO _ rfl (stO _ rfl (stO _ h2 (stO _ rfl ?_)))))))))))
  cases hch : QaE p g with
  | nil => exact stF (decF (by simp)) (QxI lb n p f r hc g hn _)
  | cons e t => exact stT (decT (by simp)) (stO _ rfl (stO _ rfl (stC rfl (stO _ rfl rfl))))
theorem QxV (n : Nat) (p : Pc) (f : Fl) (r : Rv) (q : P3) (hc : Cmp lb n) (hn : 10 < n) (hw : Qa3 f r ≠ [])
  (h1 : r.kind ≠ 2 → C lb n Qav [flcv f, rvcv r] = some (flcv (QaI r f q)))
  (h2 : C lb n Qak [pcv p, flcv (QaI r f q)] = some (QbV (QaE p (QaI r f q)))) :
  Qem lb n p.an (p.aps.map apcv) p.dn (p.dis.map dicv) f.car f.num f.fr f.to f.days f.ln (f.legs.map lgcv) r.kind r.car r.num r.fr r.to r.days r.min r.eq r.ln (r.legs.map lgcv) (Qa3 f r).length (Qa3 f r).length ((Qa3 f r).map flE) = some (QeZ (Qcd p f r q)) := by
 have hlen : (Qa3 f r).length ≤ 3 := by unfold Qa3; rw [List.length_map]; exact Qh6 f r
 have asc := QwT f r
 rw [Qlg]
 unfold Qcd
 generalize Qa3 f r = P at hw hlen asc
 by_cases hk : r.kind = 2
 ·rw [if_pos hk]
  have z := QxT lb n p f r hc P (by omega) (by omega) hw
  rw [Qwy P asc] at z
  refine stF (bneF hk) (z.trans ?_)
  have : P.isEmpty = false := by simpa using hw
  unfold QeZ; rw [this]
 ·rw [if_neg hk]
  have h1 := h1 hk
  generalize QaI r f q = g at h1 h2
  refine stT (bneT hk) (stO _ h1 (stO _ rfl (stC rfl (stO _ rfl (stO _ rfl (stO _ rfl (stO _ rfl (stO _ rfl (stO _ rfl (stO _ h2 (stO _ rfl ?_)))))))))))
  cases hch : QaE p g with
  | nil =>
   have z := QxN lb n p f r hc P g (by omega) (by omega) hw (QbV [])
   rw [QwN P g asc] at z
   refine stF (decF (by simp)) (stC (decT (by simp)) (stC (Qb4 (by omega) (by omega)) (z.trans ?_)))
   have : (insF g P).isEmpty = false := by
    cases h : insF g P with
    | nil => have := QnE g P; rw [h] at this; simp at this
    | cons => rfl
   unfold QeZ; rw [this]
  | cons e t => exact stT (decT (by simp)) (stO _ rfl (stO _ rfl (stC rfl (stO _ rfl rfl))))
theorem Qt7 (n : Nat) (p : Pc) (f : Fl) (r : Rv) (q : P3) (hw : Qa3 f r ≠ [])
  (hJ : Qem lb n p.an (p.aps.map apcv) p.dn (p.dis.map dicv) f.car f.num f.fr f.to f.days f.ln (f.legs.map lgcv) r.kind r.car r.num r.fr r.to r.days r.min r.eq r.ln (r.legs.map lgcv) (Qa3 f r).length (Qa3 f r).length ((Qa3 f r).map flE) = some (QeZ (Qcd p f r q))) : ∀ (t u : List P3) (k : Nat), u ++ t = wF f r → u ≠ [] → t.length < k →
  Qep lb n k p.an (p.aps.map apcv) p.dn (p.dis.map dicv) f.car f.num f.fr f.to f.days f.ln (f.legs.map lgcv) r.kind r.car r.num r.fr r.to r.days r.min r.eq r.ln (r.legs.map lgcv) (wcv (wF f r)) ((wF f r).isEmpty, pl3 (wF f r)) u.length u.length (u.length : Int) ((u.map (Qjq f)).map flE) = some (QeZ (Qcd p f r q))
 | [], u, k, h, hu, hk => by
  obtain ⟨k, rfl⟩ : ∃ m, k = m + 1 := ⟨k - 1, by simp at hk; omega⟩
  have hp : u = wF f r := by simpa using h
  rw [Qgh]
  refine stF (decF (by rw [← hp]; simp [pl3])) ?_
  have e : u.length = (Qa3 f r).length := by rw [hp]; simp [Qa3]
  rw [e, hp]
  exact hJ
 | x :: t, u, k, h, hu, hk => by
  obtain ⟨k, rfl⟩ : ∃ m, k = m + 1 := ⟨k - 1, by simp at hk; omega⟩
  have h3 := Qh6 f r
  have hlen : (wF f r).length = u.length + (t.length + 1) := by rw [← h]; simp
  have hw1 : IntKind.wrap .i64 ((u.length : Int) + 1) = ((u ++ [x]).length : Int) := by rw [QaF (by omega) (by omega)]; simp
  have hg : (pl3 (wF f r))[u.length]? = some (pcv3 x) := by rw [← h]; simp [pl3]
  have ih := Qt7 n p f r q hw hJ t (u ++ [x]) k (by rw [← h]; simp) (by simp) (by simp at hk; omega)
  rw [Qgh]
  refine stT (decT (by simp [pl3]; omega)) (stO _ rfl (stO _ (Qa0 hg) (stC rfl (stO _ rfl (stO _ rfl (stO _ rfl (stC (decT (by simp)) (stC (Qb4 (by omega) (by omega)) ?_))))))))
  rw [hw1]
  have e1 : (u ++ [x]).length = u.length + 1 := by simp
  have e2 : ((u ++ [x]).map (Qjq f)).map flE = (u.map (Qjq f)).map flE ++ [flE (Qjq f x)] := by simp
  rw [e2] at ih
  rw [e1] at ih ⊢
  exact ih
theorem Qnd (p : Pc) (hp : Qca p) (f : Fl) (r : Rv) (q : P3) (hl : f.legs.length ≤ 1000) (hk : r.kind = 2 ∨ r.kind = 3 ∨ r.kind = 4 ∨ r.kind = 5) (hln : f.ln = false) (hne : f.legs ≠ []) (hq : QjV f r = some q)
  (hg1 : (QaI r f q).car.length ≤ 281474976710656) (hg2 : ∀ x ∈ (QaI r f q).legs, x.eq.length ≤ 281474976710656) :
  Ret lb Qao [pcv p, flcv f, rvcv r] (QeZ (Qcd p f r q)) := by
 have a1 : Evt fun n => r.kind ≠ 2 → C lb n Qav [flcv f, rvcv r] = some (flcv (QaI r f q)) := by
  by_cases h2 : r.kind = 2
  ·exact .all fun n h => absurd h2 h
  ·exact (QlC lb f r q hl (by omega) hln hne hq).mono fun n h _ => h
 have h3 := Qh6 f r
 refine .top rfl (Evt.imp2 ((Qnk lb f.fr f.to f.days r.fr r.to r.days).and (Evt.and a1 (Evt.and (QyX lb) (Evt.ge 20)))) ((QgF lb p hp (QaI r f q) hg1 hg2).and (Qtf lb)) fun n ⟨b1, b2, b3, b4⟩ ⟨b5, b6⟩ => ?_)
 rw [QnU]
 refine stO _ b1 (stO _ rfl ?_)
 obtain ⟨m, rfl⟩ : ∃ m, n = m + 1 := ⟨n - 1, by omega⟩
 rw [Qkr]
 cases hw : wF f r with
 | nil =>
  have hw' : Qcm f.fr f.to f.days r.fr r.to r.days = [] := hw
  rw [hw']
  exact stF (decF (by simp [pl3])) (Qx7 lb (m + 1) p f r q b3 (by omega) (by unfold Qa3; rw [hw]; rfl) b2 b5 b6)
 | cons x t =>
  have hJ := QxV lb (m + 1) p f r q b3 (by omega) (by unfold Qa3; rw [hw]; simp) b2 b5
  have L := Qt7 lb (m + 1) p f r q (by unfold Qa3; rw [hw]; simp) hJ t [x] m (by rw [hw]; rfl) (by simp) (by rw [hw] at h3; simp at h3; omega)
  have hw' : Qcm f.fr f.to f.days r.fr r.to r.days = x :: t := hw
  rw [hw] at L
  rw [hw']
  exact stT (decT (by simp [pl3])) (stO _ rfl (stO _ rfl (stC rfl (stO _ rfl (stO _ rfl (stO _ rfl L))))))
end Go.Proofs
set_option linter.unusedSimpArgs false
set_option linter.unusedVariables false
namespace Go.Proofs
open Go.Am
variable (lb : Nat)
structure OkF (f : Fl) : Prop where
 ln : f.ln = false
 ne : f.legs ≠ []
 len : f.legs.length ≤ 100
 car : f.car.length ≤ 281474976710656
 eq : ∀ x ∈ f.legs, x.eq.length ≤ 281474976710656
structure OkR (r : Rv) : Prop where
 car : r.car.length ≤ 281474976710656
 eq1 : r.eq.length ≤ 281474976710656
 eq : ∀ x ∈ r.legs, x.eq.length ≤ 281474976710656
def Qd3 (r : Rv) : Fl := ⟨r.car, r.num, r.fr, r.to, r.days, r.ln, r.legs⟩
def qOf (f : Fl) (r : Rv) : P3 := (QjV f r).getD (0, 0, 0)
theorem Qts {f : Fl} {r : Rv} (h : Qa9 f r = true) : QjV f r = some (qOf f r) := by
 unfold Qa9 at h
 simp only [Bool.and_eq_true] at h
 unfold qOf
 cases hm : QjV f r with
 | none => rw [hm] at h; simp at h
 | some x => rfl
theorem Qqu {f : Fl} {r : Rv} (hf : OkF f) (hr : OkR r) (q : P3) : (QaI r f q).car.length ≤ 281474976710656 ∧ ∀ x ∈ (QaI r f q).legs, x.eq.length ≤ 281474976710656 := by
 unfold QaI
 split
 ·exact ⟨hf.car, hr.eq⟩
 ·refine ⟨hf.car, fun x hx => ?_⟩
  obtain ⟨y, hy, rfl⟩ := List.mem_map.1 hx
  unfold QdB
  split
  ·exact hf.eq y hy
  ·split
   ·exact hr.eq1
   ·exact hf.eq y hy
def anyE (r : Rv) (b : Bool) : Int := if b then (if r.kind = 1 then 6 else 0) else if r.kind = 1 then 0 else 7
def QeJ (l : List Fl) (r : Rv) : Int := if r.kind < 1 ∨ r.kind > 5 then 8 else if perE r.fr r.to r.days ≠ 0 then perE r.fr r.to r.days else anyE r (l.any (Qa9 · r))
theorem Qd2 {l u t : List Fl} {f : Fl} (h : u ++ f :: t = l) : (l.map flE)[u.length]? = some (flE f) := by rw [← h]; simp
theorem Qqc (r : Rv) (bn : Bool) (l : List Fl) (hl : l.length ≤ 100000) (vX : CV) : ∀ (t u : List Fl), u ++ t = l → Evt fun n => ∀ k, t.length < k →
  revision_allowed_L1 lb n k bn (l.map flE) r.kind r.car r.num r.fr r.to r.days r.min r.eq r.ln (r.legs.map lgcv) vX (u.length : Int) = some (.int .i64 (anyE r (t.any (Qa9 · r))))
 | [], u, h => by
  refine .all fun n k hk => ?_
  obtain ⟨k, rfl⟩ : ∃ m, k = m + 1 := ⟨k - 1, by simp at hk; omega⟩
  have hp : u = l := by simpa using h
  rw [Qft, ← hp]
  refine stF (decF (by simp)) ?_
  rw [Qkj]
  unfold anyE
  by_cases h1 : r.kind = 1
  ·refine stT (beqT h1) (stF (bneF h1) ?_); simp [h1]
  ·refine stF (beqF h1) (stT (bneT h1) ?_); simp [h1]
 | f :: t, u, h => by
  have hlen : l.length = u.length + (t.length + 1) := by rw [← h]; simp
  have hw1 : IntKind.wrap .i64 ((u.length : Int) + 1) = ((u ++ [f]).length : Int) := by rw [QaF (by omega) (by omega)]; simp
  refine Evt.imp2 (QdA lb f r) (Qqc r bn l hl vX t (u ++ [f]) (by rw [← h]; simp)) fun n hw hi k hk => ?_
  obtain ⟨k, rfl⟩ : ∃ m, k = m + 1 := ⟨k - 1, by simp at hk; omega⟩
  have hi := hi k (by simp at hk; omega)
  rw [Qft]
  refine stT (decT (by simp; omega)) (stO _ (Qa0 (Qd2 h)) (stC rfl (stO _ rfl (stO _ rfl (stO _ rfl (stO _ rfl (stO _ rfl (stO _ rfl (stO _ hw (stO _ (QaL _) ?_))))))))))
  cases ht : Qa9 f r with
  | false =>
   refine stF rfl ?_
   rw [hw1, hi]
   simp [ht]
  | true =>
   refine stT rfl ?_
   unfold anyE
   simp only [List.any_cons, ht, Bool.true_or, if_true]
   by_cases h1 : r.kind = 1
   ·rw [if_pos h1]
    exact stT (beqT h1) (stT (decT (by omega)) rfl)
   ·rw [if_neg h1]
    exact stF (beqF h1) (stT (bneT h1) (stF (by rw [decT (by omega)]; rfl) rfl))
theorem Qg5 (r : Rv) (bn : Bool) (l : List Fl) (hl : l.length ≤ 100000) : Ret lb QaU [.list bn (l.map flE), rvcv r] (.int .i64 (QeJ l r)) := by
 refine .top rfl (Evt.imp2 (QbH lb r.fr r.to r.days) (Evt.diag (Qqc lb r bn l hl (.int .i64 (perE r.fr r.to r.days)) l [] rfl)) fun n h1 h2 => ?_)
 rw [Qmc]
 unfold QeJ
 by_cases a1 : r.kind < 1
 ·rw [if_pos (.inl a1)]; exact stT (decT a1) rfl
 ·by_cases a2 : r.kind > 5
  ·rw [if_pos (.inr a2)]; exact stF (decF a1) (stT (decT a2) rfl)
  ·rw [if_neg (by omega)]
   refine stF (decF a1) (stF (decF a2) (stO _ h1 (stO _ (QaG ..) ?_)))
   by_cases a3 : perE r.fr r.to r.days = 0
   ·rw [if_neg (by simpa using a3)]
    exact stF (bneF a3) h2
   ·rw [if_pos a3]
    exact stT (bneT a3) rfl
def finP (p : Pc) (r : Rv) (acc : List Fl) : List Fl × Int :=
 if r.kind = 1 then (match QaE p (Qd3 r) with
  | e :: _ => ([], e.1)
  | [] => (acc ++ [Qd3 r], 0)) else (acc, 0)
def QdV (p : Pc) (r : Rv) : List Fl → List Fl → List Fl × Int
 | acc, [] => finP p r acc
 | acc, f :: t =>
  if r.kind = 1 then QdV p r (acc ++ [f]) t else
  if Qa9 f r = false then QdV p r (acc ++ [f]) t else
  if (Qcd p f r (qOf f r)).2 = 0 then QdV p r (acc ++ (Qcd p f r (qOf f r)).1) t else ([], (Qcd p f r (qOf f r)).2)
def Qqf (p : Pc) (l : List Fl) (r : Rv) : List Fl × Int := if QeJ l r = 0 then QdV p r [] l else ([], QeJ l r)
theorem Qv4 (p : Pc) (f : Fl) (r : Rv) (q : P3) : (Qcd p f r q).1.length ≤ 4 := by
 have h : (Qa3 f r).length ≤ 3 := by unfold Qa3; rw [List.length_map]; exact Qh6 f r
 unfold Qcd
 split
 ·show (Qa3 f r).length ≤ 4; omega
 ·split
  ·simp
  ·show (insF (QaI r f q) (Qa3 f r)).length ≤ 4; rw [QnE]; omega
theorem Qzg (a b : List Fl) : (a.isEmpty && (b.map flE).isEmpty) = (a ++ b).isEmpty := by cases a <;> cases b <;> rfl
theorem QtK (p : Pc) (hp : Qca p) (r : Rv) (hr : OkR r) (hk : 1 ≤ r.kind ∧ r.kind ≤ 5) (bn : Bool) (l : List Fl) (hl : ∀ f ∈ l, OkF f) (hll : l.length ≤ 100000) (vP : CV) : ∀ (t u acc : List Fl), u ++ t = l → acc.length ≤ 4 * u.length → Evt fun n => ∀ k, t.length < k →
  Qc0 lb n k p.an (p.aps.map apcv) p.dn (p.dis.map dicv) bn (l.map flE) r.kind r.car r.num r.fr r.to r.days r.min r.eq r.ln (r.legs.map lgcv) vP acc.isEmpty (acc.map flE) (u.length : Int) = some (QeZ (QdV p r acc t))
 | [], u, acc, h, ha => by
  have hu : u = l := by simpa using h
  refine (QgF lb p hp (Qd3 r) (by have := hr.car; show r.car.length ≤ _; omega) (fun x hx => by have := hr.eq x hx; omega)).mono fun n hc k hk => ?_
  obtain ⟨k, rfl⟩ : ∃ m, k = m + 1 := ⟨k - 1, by simp at hk; omega⟩
  rw [Qcu, ← hu]
  refine stF (decF (by simp)) ?_
  rw [Qlt]
  show _ = some (QeZ (finP p r acc))
  unfold finP
  by_cases h1 : r.kind = 1
  ·rw [if_pos h1]
   refine stT (beqT h1) (stO _ hc (stO _ rfl ?_))
   cases hch : QaE p (Qd3 r) with
   | nil =>
    refine stF (decF (by simp)) (stC (Qb4 (by simp; rw [hu] at ha; omega) (by omega)) ?_)
    rw [QcB acc (Qd3 r)]
    unfold QeZ
    rw [List.map_append]; rfl
   | cons e t => exact stT (decT (by simp)) (stO _ rfl (stO _ rfl (stC rfl (stO _ rfl rfl))))
  ·rw [if_neg h1]
   exact stF (beqF h1) rfl
 | f :: t, u, acc, h, ha => by
  have hlen : l.length = u.length + (t.length + 1) := by rw [← h]; simp
  have hw1 : IntKind.wrap .i64 ((u.length : Int) + 1) = ((u ++ [f]).length : Int) := by rw [QaF (by omega) (by omega)]; simp
  have hf := hl f (by rw [← h]; simp)
  have hun : QdV p r acc (f :: t) = if r.kind = 1 then QdV p r (acc ++ [f]) t else
   if Qa9 f r = false then QdV p r (acc ++ [f]) t else
   if (Qcd p f r (qOf f r)).2 = 0 then QdV p r (acc ++ (Qcd p f r (qOf f r)).1) t else ([], (Qcd p f r (qOf f r)).2) := rfl
  have ih1 := QtK p hp r hr hk bn l hl hll vP t (u ++ [f]) (acc ++ [f]) (by rw [← h]; simp) (by simp; omega)
  by_cases h1 : r.kind = 1
  ·rw [hun, if_pos h1]
   refine ih1.mono fun n hi k hk => ?_
   obtain ⟨k, rfl⟩ : ∃ m, k = m + 1 := ⟨k - 1, by simp at hk; omega⟩
   have hi := hi k (by simp at hk; omega)
   rw [List.map_append, ← QcB acc f acc.isEmpty] at hi
   rw [Qcu, hw1]
   exact stT (decT (by simp; omega)) (stO _ (Qa0 (Qd2 h)) (stC rfl (stO _ rfl (stO _ rfl (stO _ rfl (stO _ rfl (stO _ rfl (stO _ rfl (stT (beqT h1) (stC (Qb4 (by simp; omega) (by omega)) hi))))))))))
  ·rw [hun, if_neg h1]
   cases ht : Qa9 f r with
   | false =>
    rw [if_pos rfl]
    refine Evt.imp2 (QdA lb f r) ih1 fun n hw hi k hk => ?_
    rw [ht] at hw
    obtain ⟨k, rfl⟩ : ∃ m, k = m + 1 := ⟨k - 1, by simp at hk; omega⟩
    have hi := hi k (by simp at hk; omega)
    rw [List.map_append, ← QcB acc f acc.isEmpty] at hi
    rw [Qcu, hw1]
    exact stT (decT (by simp; omega)) (stO _ (Qa0 (Qd2 h)) (stC rfl (stO _ rfl (stO _ rfl (stO _ rfl (stO _ rfl (stO _ rfl (stO _ rfl (stF (beqF h1) (stO _ hw (stO _ (QaL _) (stT rfl (stC (Qb4 (by simp; omega) (by omega)) hi)))))))))))))
   | true =>
    rw [if_neg (by simp)]
    obtain ⟨c1, c2⟩ := Qqu hf hr (qOf f r)
    have sp := Qnd lb p hp f r (qOf f r) (by have := hf.len; omega) (by omega) hf.ln hf.ne (Qts ht) (by omega) (fun x hx => by have := c2 x hx; omega)
    have sl := Qv4 p f r (qOf f r)
    by_cases he : (Qcd p f r (qOf f r)).2 = 0
    ·rw [if_pos he]
     have ih2 := QtK p hp r hr hk bn l hl hll vP t (u ++ [f]) (acc ++ (Qcd p f r (qOf f r)).1) (by rw [← h]; simp) (by simp; omega)
     refine Evt.imp2 ((QdA lb f r).and sp) ih2 fun n ⟨hw, hs⟩ hi k hk => ?_
     rw [ht] at hw
     obtain ⟨k, rfl⟩ : ∃ m, k = m + 1 := ⟨k - 1, by simp at hk; omega⟩
     have hi := hi k (by simp at hk; omega)
     rw [List.map_append, ← Qzg] at hi
     rw [Qcu, hw1]
     exact stT (decT (by simp; omega)) (stO _ (Qa0 (Qd2 h)) (stC rfl (stO _ rfl (stO _ rfl (stO _ rfl (stO _ rfl (stO _ rfl (stO _ rfl (stF (beqF h1) (stO _ hw (stO _ (QaL _) (stF rfl (stO _ hs (stO _ rfl (stO _ rfl (stO _ rfl (stO _ rfl (stO _ (QaG ..) (stF (bneF he) (stO _ rfl (stC (by simp [flE]) (stC (Qb4 (by simp; omega) (by omega)) hi))))))))))))))))))))))
    ·rw [if_neg he]
     refine Evt.imp2 (QdA lb f r) sp fun n hw hs k hk => ?_
     rw [ht] at hw
     obtain ⟨k, rfl⟩ : ∃ m, k = m + 1 := ⟨k - 1, by simp at hk; omega⟩
     rw [Qcu, hw1]
     exact stT (decT (by simp; omega)) (stO _ (Qa0 (Qd2 h)) (stC rfl (stO _ rfl (stO _ rfl (stO _ rfl (stO _ rfl (stO _ rfl (stO _ rfl (stF (beqF h1) (stO _ hw (stO _ (QaL _) (stF rfl (stO _ hs (stO _ rfl (stO _ rfl (stO _ rfl (stO _ rfl (stO _ (QaG ..) (stT (bneT he) rfl)))))))))))))))))))
theorem Qua {l : List Fl} {r : Rv} (h : QeJ l r = 0) : 1 ≤ r.kind ∧ r.kind ≤ 5 := by
 unfold QeJ at h
 split at h
 ·cases h
 ·omega
theorem Qm5 (p : Pc) (hp : Qca p) (r : Rv) (hr : OkR r) (bn : Bool) (l : List Fl) (hl : ∀ f ∈ l, OkF f) (hll : l.length ≤ 100000) : Ret lb Qbl [pcv p, .list bn (l.map flE), rvcv r] (QeZ (Qqf p l r)) := by
 unfold Qqf
 by_cases ha : QeJ l r = 0
 ·rw [if_pos ha]
  refine .top rfl (Evt.imp2 (Qg5 lb r bn l hll) (Evt.diag (QtK lb p hp r hr (Qua ha) bn l hl hll (.int .i64 (QeJ l r)) l [] [] rfl (by simp))) fun n h1 h2 => ?_)
  rw [QiB]
  exact stO _ h1 (stO _ (QaG ..) (stF (bneF ha) h2))
 ·rw [if_neg ha]
  refine .top rfl ((Qg5 lb r bn l hll).mono fun n h1 => ?_)
  rw [QiB]
  exact stO _ h1 (stO _ (QaG ..) (stT (bneT ha) rfl))
end Go.Proofs
set_option linter.unusedSimpArgs false
set_option linter.unusedVariables false
namespace Go.Proofs
open Go.Am
variable (lb : Nat)
def outR (r : Rv) : List Fl → List Fl
 | [] => []
 | f :: t => (if Qa9 f r then (QdL f r (qOf f r)).1 else [f]) ++ outR r t
def newR (r : Rv) : List Fl → List Fl
 | [] => []
 | f :: t => (if Qa9 f r && decide (r.kind ≠ 2) then [QaI r f (qOf f r)] else []) ++ newR r t
def Qfk (r : Rv) : List Fl → Nat
 | [] => 0
 | f :: t => (if Qa9 f r then 1 else 0) + Qfk r t
def QcS (p : Pc) : List Fl → Option Int
 | [] => none
 | g :: t => match QaE p g with
  | e :: _ => some e.1
  | [] => QcS p t
def chkR (p : Pc) (out new : List Fl) : List Fl × Int := match QcS p new with
 | some e => ([], e)
 | none => (out, 0)
def QqB (g : Fl) : Prop := g.car.length ≤ 281474976710656 ∧ ∀ x ∈ g.legs, x.eq.length ≤ 281474976710656
theorem QvF (f : Fl) (r : Rv) (q : P3) : (QdL f r q).1.length ≤ 4 := by
 have h : (Qa3 f r).length ≤ 3 := by unfold Qa3; rw [List.length_map]; exact Qh6 f r
 unfold QdL
 split
 ·show (Qa3 f r).length ≤ 4; omega
 ·show (insF (QaI r f q) (Qa3 f r)).length ≤ 4; rw [QnE]; omega
def resF (p : Pc) (l : List Fl) (r : Rv) : List Fl × Int :=
 if r.kind < 1 ∨ r.kind > 5 then ([], 8) else if perE r.fr r.to r.days ≠ 0 then ([], perE r.fr r.to r.days) else
 if r.kind = 1 then (if Qfk r l = 0 then chkR p (outR r l ++ [Qd3 r]) (newR r l ++ [Qd3 r]) else ([], 6)) else
 if Qfk r l = 0 then ([], 7) else chkR p (outR r l) (newR r l)
theorem Qt6 (r : Rv) : ∀ l : List Fl, (outR r l).length ≤ 4 * l.length
 | [] => by simp [outR]
 | f :: t => by
  have := Qt6 r t
  have := QvF f r (qOf f r)
  unfold outR
  split <;> simp <;> omega
end Go.Proofs
set_option linter.unusedSimpArgs false
set_option linter.unusedVariables false
namespace Go.Proofs
open Go.Am
theorem QuC {f : Fl} {e : Ft} (h : e ∈ Qc7 f) : e.1 ≠ 0 := by
 unfold Qc7 at h
 simp only [List.mem_append] at h
 rcases h with (h | h) | h
 ·split at h
  ·simp at h
  ·simp at h; rw [h]; decide
 ·split at h
  ·simp at h
  ·simp at h; rw [h]; decide
 ·split at h
  ·rename_i hh; simp at h hh; rw [h]; exact hh
  ·simp at h
theorem Qy8 {p : Pc} {q : List Lg} {x : Lg} {e : Int} (h : e ∈ legE p q x) : e ≠ 0 := by
 unfold legE at h
 simp only [List.mem_append] at h
 rcases h with ((h | h) | h) | h <;> (split at h <;> simp at h <;> subst h <;> decide)
theorem QrM {p : Pc} {e : Ft} : ∀ (t q : List Lg), e ∈ Qa5 p q t → e.1 ≠ 0
 | [], q, h => by simp [Qa5] at h
 | x :: t, q, h => by
  unfold Qa5 at h
  rcases List.mem_append.1 h with h | h
  ·obtain ⟨z, hz, rfl⟩ := List.mem_map.1 h
   exact Qy8 hz
  ·exact QrM t _ h
theorem Qt1 {p : Pc} {l : List Lg} {e : Ft} : ∀ (r : List Int), e ∈ Qcp p l r → e.1 ≠ 0
 | [], h => by simp [Qcp] at h
 | d :: r, h => by
  unfold Qcp at h
  split at h
  ·exact Qt1 r h
  ·simp at h; subst h; simp
theorem Qsk {p : Pc} {f : Fl} {e : Ft} (h : e ∈ QaE p f) : e.1 ≠ 0 := by
 unfold QaE at h
 split at h
 ·unfold QfP at h
  rcases List.mem_append.1 h with h | h
  ·exact QuC h
  ·split at h
   ·simp at h; subst h; simp
   ·simp at h
 ·split at h
  ·exact Qt1 _ h
  ·rcases List.mem_append.1 h with h | h
   ·exact QuC h
   ·exact QrM _ _ h
theorem QuB (r : Rv) : ∀ l : List Fl, (l.any (Qa9 · r) = false) ↔ Qfk r l = 0
 | [] => by simp [Qfk]
 | f :: t => by
  have := QuB r t
  cases h : Qa9 f r <;> simp [Qfk, h, this]
theorem Qo1 (r : Rv) : ∀ l : List Fl, Qfk r l = 0 → outR r l = l ∧ newR r l = []
 | [], _ => ⟨rfl, rfl⟩
 | f :: t, h => by
  have ht : Qa9 f r = false := by
   cases h1 : Qa9 f r with
   | false => rfl
   | true => simp [Qfk, h1] at h
  have h2 : Qfk r t = 0 := by simp [Qfk, ht] at h; exact h
  obtain ⟨a, b⟩ := Qo1 r t h2
  simp [outR, newR, ht, a, b]
theorem QrE (p : Pc) (r : Rv) (h1 : r.kind = 1) : ∀ (t acc : List Fl), QdV p r acc t = finP p r (acc ++ t)
 | [], acc => by simp [QdV]
 | f :: t, acc => by
  have := QrE p r h1 t (acc ++ [f])
  rw [QdV, if_pos h1, this]; simp
theorem Qj5 (p : Pc) (r : Rv) (h1 : r.kind ≠ 1) : ∀ (t acc : List Fl), QdV p r acc t = chkR p (acc ++ outR r t) (newR r t)
 | [], acc => by
  show finP p r acc = _
  unfold finP
  rw [if_neg h1]
  simp [outR, newR, chkR, QcS]
 | f :: t, acc => by
  rw [QdV, if_neg h1]
  cases ht : Qa9 f r with
  | false =>
   rw [if_pos rfl, Qj5 p r h1 t (acc ++ [f])]
   simp [outR, newR, ht]
  | true =>
   rw [if_neg (by simp)]
   by_cases h2 : r.kind = 2
   ·have e : Qcd p f r (qOf f r) = (Qa3 f r, 0) := by unfold Qcd; rw [if_pos h2]
    have e2 : QdL f r (qOf f r) = (Qa3 f r, -1) := by unfold QdL; rw [if_pos h2]
    rw [e, if_pos rfl, Qj5 p r h1 t]
    simp [outR, newR, ht, e2, h2]
   ·have e2 : (QdL f r (qOf f r)).1 = insF (QaI r f (qOf f r)) (Qa3 f r) := by unfold QdL; rw [if_neg h2]
    have e3 : newR r (f :: t) = QaI r f (qOf f r) :: newR r t := by simp [newR, ht, h2]
    have e4 : outR r (f :: t) = insF (QaI r f (qOf f r)) (Qa3 f r) ++ outR r t := by simp [outR, ht, e2]
    rw [e3, e4]
    cases hc : QaE p (QaI r f (qOf f r)) with
    | nil =>
     have e : Qcd p f r (qOf f r) = (insF (QaI r f (qOf f r)) (Qa3 f r), 0) := by unfold Qcd; rw [if_neg h2, hc]
     rw [e, if_pos rfl, Qj5 p r h1 t]
     unfold chkR
     rw [QcS, hc, List.append_assoc]
    | cons x s =>
     have e : Qcd p f r (qOf f r) = ([], x.1) := by unfold Qcd; rw [if_neg h2, hc]
     have hx : x.1 ≠ 0 := Qsk (p := p) (f := QaI r f (qOf f r)) (by rw [hc]; simp)
     rw [e, if_neg hx]
     unfold chkR
     rw [QcS, hc]
theorem Qx8 (p : Pc) (l : List Fl) (r : Rv) : Qqf p l r = resF p l r := by
 unfold Qqf resF QeJ
 by_cases a1 : r.kind < 1 ∨ r.kind > 5
 ·rw [if_pos a1, if_pos a1]; rfl
 ·rw [if_neg a1, if_neg a1]
  by_cases a3 : perE r.fr r.to r.days ≠ 0
  ·rw [if_pos a3, if_pos a3, if_neg a3]
  ·rw [if_neg a3, if_neg a3]
   have m := QuB r l
   unfold anyE
   by_cases h1 : r.kind = 1
   ·rw [if_pos h1, if_pos h1, if_pos h1]
    by_cases hm : Qfk r l = 0
    ·rw [m.2 hm, if_pos hm]
     obtain ⟨o1, o2⟩ := Qo1 r l hm
     rw [o1, o2]
     simp only [Bool.false_eq_true, if_false, if_true]
     rw [QrE p r h1, List.nil_append]
     unfold finP chkR
     rw [if_pos h1, List.nil_append, QcS]
     cases QaE p (Qd3 r) <;> simp [QcS]
    ·have : l.any (Qa9 · r) = true := by
      cases h : l.any (Qa9 · r) with
      | true => rfl
      | false => exact absurd (m.1 h) hm
     rw [this, if_neg hm]
     simp
   ·rw [if_neg h1, if_neg h1, if_neg h1]
    by_cases hm : Qfk r l = 0
    ·rw [m.2 hm, if_pos hm]
     simp
    ·have : l.any (Qa9 · r) = true := by
      cases h : l.any (Qa9 · r) with
      | true => rfl
      | false => exact absurd (m.1 h) hm
     rw [this, if_neg hm]
     simp only [if_true]
     rw [Qj5 p r h1, List.nil_append]
end Go.Proofs
set_option linter.unusedSimpArgs false
set_option linter.unusedVariables false
namespace Go.Proofs
open Go.Am
variable (lb : Nat)
def QyR : Bs := [102, 108, 105, 103, 104, 116, 32]
def atS (i : Nat) : Bs := QyR ++ Lib.itoa (i : Int)
def ownE (i : Nat) (e : Ft) : Ft := (e.1, (atS i ++ [32]) ++ e.2)
def ft8 (p : Pc) (i : Nat) (tw : Bool) (f : Fl) : List Ft := (QaE p f).map (ownE i) ++ if tw then [(6, atS i)] else []
def Qeq (p : Pc) : List Fl → List Fl → List Ft
 | _, [] => []
 | q, f :: t => ft8 p q.length (q.any (QcE · f)) f ++ Qeq p (q ++ [f]) t
theorem Qsg {f : Fl} {e : Ft} (h : e ∈ Qc7 f) : e.2.length ≤ 100 := by
 unfold Qc7 at h
 simp only [List.mem_append] at h
 rcases h with (h | h) | h
 ·split at h
  ·simp at h
  ·simp at h; rw [h]; decide
 ·split at h
  ·simp at h
  ·simp at h; rw [h]; decide
 ·split at h
  ·simp at h; rw [h]; show wPeriod.length ≤ 100; decide
  ·simp at h
theorem QqC {p : Pc} {e : Ft} : ∀ (t q : List Lg), q.length + t.length ≤ 1000 → e ∈ Qa5 p q t → e.2.length ≤ 100
 | [], q, _, h => by simp [Qa5] at h
 | x :: t, q, hq, h => by
  unfold Qa5 at h
  rcases List.mem_append.1 h with h | h
  ·obtain ⟨z, hz, rfl⟩ := List.mem_map.1 h
   have := Qea (z := (q.length : Int)) (by omega) (by simp at hq; omega)
   have : wLeg.length = 4 := rfl
   simp; omega
  ·exact QqC t _ (by simp at hq ⊢; omega) h
theorem Qsh {p : Pc} {l : List Lg} {e : Ft} : ∀ (r : List Int), e ∈ Qcp p l r → e.2.length ≤ 100
 | [], h => by simp [Qcp] at h
 | d :: r, h => by
  unfold Qcp at h
  split at h
  ·exact Qsh r h
  ·simp at h; rw [h]
   have : wDay.length = 4 := rfl
   have := QmZ d
   simp; omega
theorem Qv0 {p : Pc} {f : Fl} {e : Ft} (h : e ∈ QaE p f) : e.2.length ≤ 100 := by
 unfold QaE at h
 split at h
 ·unfold QfP at h
  rcases List.mem_append.1 h with h | h
  ·exact Qsg h
  ·split at h
   ·simp at h; rw [h]; decide
   ·simp at h
 ·split at h
  ·exact Qsh _ h
  ·rcases List.mem_append.1 h with h | h
   ·exact Qsg h
   ·exact QqC _ _ (by simp; omega) h
theorem QrA (p : Pc) (l : List Lg) : ∀ (D : List Int), (Qcp p l D).length ≤ 1
 | [] => by simp [Qcp]
 | d :: D => by
  have := QrA p l D
  unfold Qcp; split <;> simp [this]
theorem Qll (p : Pc) (f : Fl) : (QaE p f).length ≤ 50 := by
 unfold QaE
 have hg := QjX f
 split
 ·unfold QfP; rw [List.length_append]
  have : (if (decide ((f.legs.length : Int) < 1) || decide ((f.legs.length : Int) > 6)) then [(4, QnP)] else [] : List Ft).length ≤ 1 := by split <;> simp
  omega
 ·split
  ·have := QrA p f.legs (Qar f.fr f.to f.days); omega
  ·rw [List.length_append]; have := QiW p f.legs []; omega
theorem Qzb (p : Pc) (i : Nat) (tw : Bool) (f : Fl) : (ft8 p i tw f).length ≤ 51 := by
 have := Qll p f
 unfold ft8
 cases tw <;> simp <;> omega
theorem Qyi (n k0 : Nat) (p : Pc) (bn : Bool) (L : List (List CV)) (i : Nat) (hi : i ≤ 1000) (f : Fl) (yq : CV) (H : List Ft) (hH : H.length ≤ 900000) : ∀ (t u : List Ft) (k : Nat), u ++ t = QaE p f → t.length < k →
  Qg6 lb n k k0 p.an (p.aps.map apcv) p.dn (p.dis.map dicv) bn L (i : Int) (Lib.itoa (i : Int)) (QbV (QaE p f)) yq (flE f) (.str f.car) (.int .i64 f.num) (.int .i64 f.fr) (.int .i64 f.to) (.int .i64 f.days) (.list f.ln (f.legs.map lgcv)) (H ++ u.map (ownE i)).isEmpty ((H ++ u.map (ownE i)).map Qbb) (u.length : Int) =
   Qjz lb n k0 p.an (p.aps.map apcv) p.dn (p.dis.map dicv) bn L (i : Int) (Lib.itoa (i : Int)) (QbV (QaE p f)) yq (flE f) (.str f.car) (.int .i64 f.num) (.int .i64 f.fr) (.int .i64 f.to) (.int .i64 f.days) (.list f.ln (f.legs.map lgcv)) (H ++ (QaE p f).map (ownE i)).isEmpty ((H ++ (QaE p f).map (ownE i)).map Qbb) ((QaE p f).length : Int)
 | [], u, k, h, hk => by
  obtain ⟨k, rfl⟩ : ∃ m, k = m + 1 := ⟨k - 1, by simp at hk; omega⟩
  have hu : u = QaE p f := by simpa using h
  rw [Qiw, hu]
  exact stO _ rfl (stF (decF (by simp)) rfl)
 | e :: t, u, k, h, hk => by
  obtain ⟨k, rfl⟩ : ∃ m, k = m + 1 := ⟨k - 1, by simp at hk; omega⟩
  have hc := Qll p f
  have hl : (QaE p f).length = u.length + (t.length + 1) := by rw [← h]; simp
  have hs := Qv0 (p := p) (f := f) (e := e) (by rw [← h]; simp)
  have hit := Qea (z := (i : Int)) (by omega) (by omega)
  have hw1 : IntKind.wrap .i64 ((u.length : Int) + 1) = ((u ++ [e]).length : Int) := by rw [QaF (by omega) (by omega)]; simp
  have hg : ((QaE p f).map Qbb)[u.length]? = some (Qbb e) := by rw [← h]; simp
  have ih := Qyi n k0 p bn L i hi f yq H hH t (u ++ [e]) k (by rw [← h]; simp) (by simp at hk; omega)
  have e2 : H ++ (u ++ [e]).map (ownE i) = (H ++ u.map (ownE i)) ++ [ownE i e] := by simp
  rw [e2, List.map_append (l₁ := H ++ u.map (ownE i)) (l₂ := [ownE i e]), ← QcB (H ++ u.map (ownE i)) (ownE i e) (H ++ u.map (ownE i)).isEmpty] at ih
  rw [Qiw, hw1]
  refine stO _ rfl (stT (decT (by simp; omega)) (stO _ rfl (stO _ (Qa0 hg) (stC rfl (stO _ rfl (stC (decT (by simp; omega)) (stO _ rfl (stO _ (Qa0 hg) (stC rfl (stO _ rfl (stO _ rfl (stC (decT (by simp; omega)) (stC rfl (stC (Qb4 (by simp; omega) (by omega)) ih))))))))))))))
theorem Qyx (p : Pc) (bn : Bool) (l : List Fl) (q : List Fl) (f : Fl) (t0 : List Fl) (hq : q ++ f :: t0 = l) (hql : q.length ≤ 1000) (b : Bool) (H : List (List CV)) (s140 : Bs) (w7 yq : CV) (vb : Int) (c141 : List CV) (x1 x2 x3 x4 x5 x6 : CV) : ∀ (t u : List Fl), u ++ t = q → Evt fun n => ∀ k k0, t.length < k →
  QfM lb n k k0 p.an (p.aps.map apcv) p.dn (p.dis.map dicv) bn (l.map flE) b H (q.length : Int) s140 w7 vb yq c141 x1 x2 x3 x4 x5 x6 (.bool (u.any (QcE · f))) (u.length : Int) =
   QjB lb n k0 p.an (p.aps.map apcv) p.dn (p.dis.map dicv) bn (l.map flE) b H (q.length : Int) s140 w7 vb yq c141 x1 x2 x3 x4 x5 x6 (.bool (q.any (QcE · f))) (q.length : Int)
 | [], u, h => by
  refine .all fun n k k0 hk => ?_
  obtain ⟨k, rfl⟩ : ∃ m, k = m + 1 := ⟨k - 1, by simp at hk; omega⟩
  have hu : u = q := by simpa using h
  rw [QiE, hu]
  exact stF (decF (by simp)) rfl
 | x :: t, u, h => by
  have hl : q.length = u.length + (t.length + 1) := by rw [← h]; simp
  have hw1 : IntKind.wrap .i64 ((u.length : Int) + 1) = ((u ++ [x]).length : Int) := by rw [QaF (by omega) (by omega)]; simp
  have hx : (l.map flE)[u.length]? = some (flE x) := by rw [← hq, ← h]; simp
  refine Evt.imp2 (QsG lb x f) (Qyx p bn l q f t0 hq hql b H s140 w7 yq vb c141 x1 x2 x3 x4 x5 x6 t (u ++ [x]) (by rw [← h]; simp)) fun n hm hi k k0 hk => ?_
  obtain ⟨k, rfl⟩ : ∃ m, k = m + 1 := ⟨k - 1, by simp at hk; omega⟩
  have hi := hi k k0 (by simp at hk; omega)
  rw [QiE, hw1]
  refine stT (decT (by omega)) (stO _ (QaL _) ?_)
  cases ha : u.any (QcE · f) with
  | true =>
   have e : (u ++ [x]).any (QcE · f) = true := by rw [List.any_append, ha]; rfl
   rw [e] at hi
   exact stT rfl hi
  | false =>
   have e : (u ++ [x]).any (QcE · f) = QcE x f := by rw [List.any_append, ha]; simp
   rw [e] at hi
   exact stF rfl (stO _ (Qa0 hx) (stC rfl (stO _ rfl (stO _ rfl (stO _ rfl (stO _ rfl (stO _ rfl (stO _ rfl (stO _ (Qa0 (Qd2 hq)) (stC rfl (stO _ rfl (stO _ rfl (stO _ rfl (stO _ rfl (stO _ rfl (stO _ rfl (stO _ hm hi)))))))))))))))))
theorem Qyp (p : Pc) (hp : Qca p) (bn : Bool) (l : List Fl) (hl : ∀ f ∈ l, QqB f) (hll : l.length ≤ 1000) : ∀ (t q : List Fl) (H : List Ft), q ++ t = l → H.length ≤ 51 * q.length → Evt fun n => ∀ k, t.length < k →
  r08_Check_L1 lb n k p.an (p.aps.map apcv) p.dn (p.dis.map dicv) bn (l.map flE) H.isEmpty (H.map Qbb) (q.length : Int) = some (QbV (H ++ Qeq p q t))
 | [], q, H, h, hH => by
  refine .all fun n k hk => ?_
  obtain ⟨k, rfl⟩ : ∃ m, k = m + 1 := ⟨k - 1, by simp at hk; omega⟩
  have hu : q = l := by simpa using h
  rw [QiA, hu]
  refine stF (decF (by simp)) ?_
  rw [Qqe]
  simp [Qeq, QbV]
 | f :: t, q, H, h, hH => by
  have hlen : l.length = q.length + (t.length + 1) := by rw [← h]; simp
  have hw1 : IntKind.wrap .i64 ((q.length : Int) + 1) = ((q ++ [f]).length : Int) := by rw [QaF (by omega) (by omega)]; simp
  obtain ⟨g1, g2⟩ := hl f (by rw [← h]; simp)
  have hf8 := Qzb p q.length (q.any (QcE · f)) f
  have hc := Qll p f
  have hit := Qea (z := (q.length : Int)) (by omega) (by omega)
  have q4 := Qyx lb p bn l q f t h (by omega) (H ++ (QaE p f).map (ownE q.length)).isEmpty ((H ++ (QaE p f).map (ownE q.length)).map Qbb) (Lib.itoa (q.length : Int)) (QbV (QaE p f)) (.str (Lib.itoa (q.length : Int))) ((QaE p f).length : Int) (flE f) (.str f.car) (.int .i64 f.num) (.int .i64 f.fr) (.int .i64 f.to) (.int .i64 f.days) (.list f.ln (f.legs.map lgcv)) q [] rfl
  refine Evt.imp2 ((Qfg lb (q.length : Int) (by omega) (by omega)).and ((QsN lb p hp f (by omega) (fun x hx => by have := g2 x hx; omega)).and (Evt.ge 1100))) (Evt.and q4 (Qyp p hp bn l hl hll t (q ++ [f]) (H ++ ft8 p q.length (q.any (QcE · f)) f) (by rw [← h]; simp) (by simp; omega))) fun n ⟨a1, a2, a3⟩ ⟨a4, hi⟩ k hk => ?_
  obtain ⟨k, rfl⟩ : ∃ m, k = m + 1 := ⟨k - 1, by simp at hk; omega⟩
  have hi := hi k (by simp at hk; omega)
  have a4 := a4 n k (by omega)
  have z := Qyi lb n k p bn (l.map flE) q.length (by omega) f (.str (Lib.itoa (q.length : Int))) H (by omega) (QaE p f) [] n rfl (by omega)
  rw [List.map_nil, List.append_nil] at z
  rw [QiA]
  refine stT (decT (by simp; omega)) (stO _ a1 (stO _ rfl (stC (decT (by simp; omega)) (stO _ (Qa0 (Qd2 h)) (stC rfl (stO _ rfl (stO _ rfl (stO _ rfl (stO _ rfl (stO _ rfl (stO _ rfl (stO _ a2 (z.trans ?_)))))))))))))
  rw [QqG]
  refine a4.trans ?_
  rw [QpV]
  refine stO _ (QaL _) ?_
  have e9 : Qeq p q (f :: t) = ft8 p q.length (q.any (QcE · f)) f ++ Qeq p (q ++ [f]) t := rfl
  rw [e9, ← List.append_assoc]
  cases ha : q.any (QcE · f) with
  | true =>
   rw [ha] at hi
   have e : H ++ ft8 p q.length true f = (H ++ (QaE p f).map (ownE q.length)) ++ [(6, atS q.length)] := by simp [ft8]
   rw [e] at hi ⊢
   rw [List.map_append (l₁ := H ++ (QaE p f).map (ownE q.length)) (l₂ := [(6, atS q.length)]), ← QcB (H ++ (QaE p f).map (ownE q.length)) (6, atS q.length) (H ++ (QaE p f).map (ownE q.length)).isEmpty] at hi
   refine stT rfl (stC (Qb4 (by simp; omega) (by omega)) ?_)
   rw [QjP, hw1]
   exact hi
  | false =>
   rw [ha] at hi
   have e : H ++ ft8 p q.length false f = H ++ (QaE p f).map (ownE q.length) := by simp [ft8]
   rw [e] at hi ⊢
   refine stF rfl ?_
   rw [QjP, hw1]
   exact hi
theorem QsY (p : Pc) (hp : Qca p) (bn : Bool) (l : List Fl) (hl : ∀ f ∈ l, QqB f) (hll : l.length ≤ 1000) : Ret lb Qah [pcv p, .list bn (l.map flE)] (QbV (Qeq p [] l)) := by
 refine .top rfl ((Evt.diag (Qyp lb p hp bn l hl hll l [] [] rfl (by simp))).mono fun n h => ?_)
 rw [Qt2]
 exact h
end Go.Proofs
set_option linter.unusedSimpArgs false
set_option linter.unusedVariables false
namespace Go.Proofs
open Go.Am
variable (lb : Nat)
def ArgL (l : List Fl) : Prop := l.length ≤ 281474976710656 ∧ ∀ f ∈ l, ArgF f ∧ (f.ln = true → f.legs = [])
def ArgR (r : Rv) : Prop := r.car.length ≤ 281474976710656 ∧ r.legs.length ≤ 281474976710656 ∧ (∀ x ∈ r.legs, Qpt x ≤ 1000000000000000) ∧ (r.ln = true → r.legs = [])
theorem Qz5 (F : List Ft) : (((F.map Qbb).length : Int) == 0) = F.isEmpty := by cases F with
 | nil => rfl
 | cons e F => exact beqF (by simp; omega)
theorem QnO {g z : Fl} : ∀ {P : List Fl}, z ∈ insF g P → z = g ∨ z ∈ P
 | [], h => by simp [insF] at h; exact .inl h
 | y :: t, h => by
  unfold insF at h
  split at h
  ·rcases List.mem_cons.1 h with h | h
   ·exact .inl h
   ·exact .inr h
  ·rcases List.mem_cons.1 h with h | h
   ·exact .inr (by rw [h]; simp)
   ·rcases QnO h with h | h
    ·exact .inl h
    ·exact .inr (by simp [h])
def From (r : Rv) (l : List Fl) (z : Fl) : Prop := z ∈ l ∨ (∃ f ∈ l, Qa9 f r = true ∧ z ∈ Qa3 f r) ∨ z ∈ newR r l
theorem Qr2 (r : Rv) : ∀ (l : List Fl) (z : Fl), z ∈ outR r l → From r l z
 | [], z, h => by simp [outR] at h
 | f :: t, z, h => by
  unfold outR at h
  rcases List.mem_append.1 h with h | h
  ·cases ht : Qa9 f r with
   | false => rw [ht] at h; simp at h; exact .inl (by simp [h])
   | true =>
    rw [ht] at h
    simp only [if_true] at h
    unfold QdL at h
    split at h
    ·exact .inr (.inl ⟨f, by simp, ht, h⟩)
    ·rename_i hk
     rcases QnO h with h | h
     ·exact .inr (.inr (by unfold newR; simp [ht, hk, h]))
     ·exact .inr (.inl ⟨f, by simp, ht, h⟩)
  ·rcases Qr2 r t z h with h | ⟨g, hg, h1, h2⟩ | h
   ·exact .inl (by simp [h])
   ·exact .inr (.inl ⟨g, by simp [hg], h1, h2⟩)
   ·exact .inr (.inr (by unfold newR; simp [h]))
theorem QrW (r : Rv) : ∀ (l : List Fl) (z : Fl), z ∈ newR r l → ∃ f ∈ l, Qa9 f r = true ∧ z = QaI r f (qOf f r)
 | [], z, h => by simp [newR] at h
 | f :: t, z, h => by
  unfold newR at h
  rcases List.mem_append.1 h with h | h
  ·split at h
   ·rename_i hh
    simp only [Bool.and_eq_true] at hh
    exact ⟨f, by simp, hh.1, by simpa using h⟩
   ·simp at h
  ·obtain ⟨g, h1, h2, h3⟩ := QrW r t z h
   exact ⟨g, by simp [h1], h2, h3⟩
theorem Qu5 {r : Rv} {f : Fl} {q : P3} (h1 : f.legs.length ≤ 100) (h2 : r.legs.length ≤ 100) : (QaI r f q).legs.length ≤ 100 := by
 unfold QaI
 split
 ·exact h2
 ·simpa using h1
theorem QyB (p : Pc) (l : List Fl) (r : Rv) : (resF p l r).1.length ≤ 4 * l.length + 1 := by
 have h := Qt6 r l
 have hc : ∀ (out new : List Fl), (chkR p out new).1.length ≤ out.length := fun out new => by
  unfold chkR
  split <;> simp
 unfold resF
 split
 ·simp
 ·split
  ·simp
  ·split
   ·split
    ·have := hc (outR r l ++ [Qd3 r]) (newR r l ++ [Qd3 r])
     simp at this; omega
    ·simp
   ·split
    ·simp
    ·have := hc (outR r l) (newR r l); omega
end Go.Proofs
set_option linter.unusedSimpArgs false
set_option linter.unusedVariables false
namespace Go.Proofs
open Go.Am
variable (lb : Nat)
def SmR (r : Rv) : Prop := OkR r ∧ r.legs.length ≤ 12 ∧ (r.ln = true → r.legs = [])
theorem Qiq {p : Pc} : ∀ {l : List Fl}, QcS p l = none → ∀ g ∈ l, QaE p g = []
 | [], _, g, hg => by simp at hg
 | x :: t, h, g, hg => by
  unfold QcS at h
  cases hc : QaE p x with
  | cons e s => rw [hc] at h; simp at h
  | nil =>
   rw [hc] at h
   rcases List.mem_cons.1 hg with rfl | hg
   ·exact hc
   ·exact Qiq h g hg
theorem Qkc {p : Pc} {f : Fl} (h : QaE p f = []) : f.legs ≠ [] := fun e => by
 obtain ⟨_, k2, _⟩ := QiY h
 rw [e] at k2; simp at k2
theorem Qrb {b : Bool} {l : List Lg} (h : b = true → l = []) (hne : l ≠ []) : b = false := by
 cases b with
 | false => rfl
 | true => exact absurd (h rfl) hne
theorem Qza {f : Fl} (hf : OkF f) (x : P3) : OkF (Qjq f x) := ⟨hf.ln, hf.ne, hf.len, hf.car, hf.eq⟩
theorem Qu9 {p : Pc} {f : Fl} {r : Rv} (hf : OkF f) (hr : SmR r) (q : P3) (hc : QaE p (QaI r f q) = []) : OkF (QaI r f q) := by
 obtain ⟨c1, c2⟩ := Qqu hf hr.1 q
 have hne := Qkc hc
 refine ⟨?_, hne, Qu5 hf.len (by have := hr.2.1; omega), c1, c2⟩
 unfold QaI at hne ⊢
 by_cases h5 : r.kind = 5
 ·rw [if_pos h5] at hne ⊢
  exact Qrb hr.2.2 hne
 ·rw [if_neg h5]
  show f.legs.isEmpty = false
  simpa using hf.ne
theorem Qze {p : Pc} {r : Rv} (hr : SmR r) (hc : QaE p (Qd3 r) = []) : OkF (Qd3 r) :=
 ⟨Qrb hr.2.2 (Qkc (f := Qd3 r) hc), Qkc hc, by have := hr.2.1; show r.legs.length ≤ 100; omega, hr.1.car, hr.1.eq⟩
theorem Qy4 {p : Pc} {l : List Fl} {r : Rv} (hl : ∀ f ∈ l, OkF f) (hr : SmR r) : ∀ z ∈ (resF p l r).1, OkF z := by
 have ho : (∀ g ∈ newR r l, QaE p g = []) → ∀ z ∈ outR r l, OkF z := fun hn z hz => by
  rcases Qr2 r l z hz with h | ⟨f, hf, _, h⟩ | h
  ·exact hl z h
  ·obtain ⟨x, _, rfl⟩ := List.mem_map.1 h
   exact Qza (hl f hf) x
  ·have hc := hn z h
   obtain ⟨f, hf, _, rfl⟩ := QrW r l z h
   exact Qu9 (hl f hf) hr _ hc
 have hc : ∀ (out new : List Fl), ((∀ g ∈ new, QaE p g = []) → ∀ z ∈ out, OkF z) → ∀ z ∈ (chkR p out new).1, OkF z := fun out new h z hz => by
  unfold chkR at hz
  cases hb : QcS p new with
  | none => rw [hb] at hz; exact h (Qiq hb) z hz
  | some e => rw [hb] at hz; simp at hz
 intro z hz
 unfold resF at hz
 split at hz
 ·simp at hz
 ·split at hz
  ·simp at hz
  ·split at hz
   ·split at hz
    ·refine hc _ _ (fun hn z hz => ?_) z hz
     rcases List.mem_append.1 hz with h | h
     ·exact ho (fun g hg => hn g (by simp [hg])) z h
     ·simp at h; subst h; exact Qze hr (hn (Qd3 r) (by simp))
    ·simp at hz
   ·split at hz
    ·simp at hz
    ·exact hc _ _ ho z hz
def rvE (r : Rv) : List CV := [.int .i64 r.kind, .str r.car, .int .i64 r.num, .int .i64 r.fr, .int .i64 r.to, .int .i64 r.days, .int .i64 r.min, .str r.eq, .list r.ln (r.legs.map lgcv)]
end Go.Proofs
