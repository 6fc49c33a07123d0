/- Chapters 5 and 6 on plain data: what the reference's Check says of places; which flights and places are big. Conditions: as each says. -/
import Derived.Test.YtdcpdknginpohaaGreatDoorKB
import Derived.Test.YtdcpdknginpohaaGreatDoorGc
import Derived.Test.YtdcpdknginpohaaGreatDoorGd
import Derived.Test.YtdcpdknginpohaaGreatDoorW07
set_option linter.unusedSimpArgs false
namespace Go.Proofs
open Go.Am
variable (lb : Nat)
def okO (o : Int) : Bool := decide (-840 ≤ o ∧ o ≤ 840)
theorem QkV (o : Int) : Ret lb Qft [.int .i64 o] (.bool (okO o)) := by
 refine .top rfl (.eq (fun n => by rw [Qsx]) (.all fun n => ?_))
 unfold okO
 by_cases h : o ≥ -840
 ·rw [decT h, cond_true]
  congr 2
  exact decide_eq_decide.2 ⟨fun q => ⟨h, q⟩, fun q => q.2⟩
 ·rw [decF h, cond_false, decF (by omega)]
def shE : Option Int → List Sh → Int
 | _, [] => 0
 | b, x :: r => if x.1 < 0 ∨ x.1 ≥ 52596000 then 13 else if (match b with | some y => decide (x.1 - y < 2880) | none => false) = true then 13 else if okO x.2 then shE (some x.1) r else 2
def Qe5 (off : Int) (sh : List Sh) : Int := if sh.length > 256 then 4 else if okO off then shE none sh else 2
theorem Qse (off : Int) (sn : Bool) (sh : List Sh) : Ret lb QbJ [.agg [.int .i64 off, .list sn (sh.map shcv)]] (.int .i64 (Qe5 off sh)) := by
 unfold Qe5
 by_cases hl : sh.length > 256
 ·refine .top rfl (.all fun n => ?_)
  rw [QmA, if_pos hl]
  exact stT (decT (by rw [List.length_map]; omega)) rfl
 rw [if_neg hl]
 have key := QdA (enc := shcv) (l := sh) (by omega) (P := fun q t n k => (∀ y, q.getLast? = some y → 0 ≤ y.1 ∧ y.1 < 52596000) → QfD lb n k off sn (sh.map shcv) (q.length : Int) = some (.int .i64 (shE (q.getLast?.map (·.1)) t))) (by
  refine .all fun n k _ => ?_
  rw [Qii]
  refine stF (decF (by simp)) ?_
  rw [Qqa]
  rfl) (by
  intro q x t hq hlt hat hw hev
  refine Evt.imp2 hev (QkV lb x.2) fun n hn h2 k hk hy => ?_
  have hn := hn k hk
  rw [List.getLast?_append] at hn
  simp only [List.getLast?_singleton, Option.some_or, Option.map_some, Option.some.injEq, forall_eq'] at hn
  rw [Qii]
  refine stT (decT hlt) (stO _ hat (stC rfl (stO _ rfl (stO _ rfl (stO _ rfl ?_)))))
  obtain ⟨b0, hb0⟩ : ∃ b, q.getLast?.map (·.1) = b := ⟨_, rfl⟩
  rw [hb0]
  unfold shE
  by_cases h1 : x.1 < 0
  ·rw [if_pos (.inl h1)]
   exact stT (decT h1) rfl
  refine stF (decF h1) (stO _ rfl ?_)
  by_cases h3 : x.1 ≥ 52596000
  ·rw [if_pos (.inr h3)]
   exact stT (decT h3) rfl
  refine stF (decF h3) ?_
  rw [if_neg (by omega)]
  have hn := hn ⟨by omega, by omega⟩
  rcases QgU q with rfl | ⟨q', y, rfl⟩
  ·have : b0 = none := hb0.symm
   subst this
   rw [if_neg (by simp)]
   refine stF (decF (by simp)) (stO _ h2 (stO _ rfl ?_))
   cases ho : okO x.2 with
   | true =>
    rw [if_pos rfl, hw]
    exact stF rfl hn
   | false =>
    rw [if_neg (by simp)]
    exact stT rfl rfl
  ·rw [List.getLast?_append] at hb0 hy
   simp only [List.getLast?_singleton, Option.some_or, Option.map_some, Option.some.injEq, forall_eq'] at hb0 hy
   subst hb0
   have hll : sh.length = q'.length + (t.length + 2) := by rw [← hq]; simp only [List.length_append, List.length_cons, List.length_nil]; omega
   have hwl : IntKind.wrap .i64 (((q' ++ [y]).length : Int) - 1) = (q'.length : Int) := by
    rw [List.length_append, List.length_singleton, QaB (by omega) (by omega)]
    omega
   have hpre : atL (sh.map shcv) (q'.length : Int) = some (shcv y) := Qa5 (by rw [← hq]; simp)
   refine stT (decT (by rw [List.length_append, List.length_singleton]; omega)) ?_
   rw [hwl]
   refine stO _ hpre (stC rfl (stO _ rfl (stO _ rfl (stO _ rfl ?_))))
   rw [QaB (x := x.1 - y.1) (by omega) (by omega)]
   by_cases h4 : x.1 - y.1 < 2880
   ·rw [if_pos (decT h4)]
    exact stT (decT h4) rfl
   ·rw [if_neg (by simpa using h4)]
    refine stF (decF h4) (stO _ h2 (stO _ rfl ?_))
    cases ho : okO x.2 with
    | true =>
     rw [if_pos rfl, hw]
     exact stF rfl hn
    | false =>
     rw [if_neg (by simp)]
     exact stT rfl rfl) sh [] rfl
 refine .top rfl (Evt.imp2 (QkV lb off) (Evt.diag key) fun n h1 h2 => ?_)
 rw [QmA]
 refine stF (decF (by rw [List.length_map]; omega)) (stO _ h1 (stO _ rfl ?_))
 cases ho : okO off with
 | true =>
  rw [if_pos rfl]
  exact stF rfl (h2 (by simp))
 | false =>
  rw [if_neg (by simp)]
  exact stT rfl rfl
def airE (q : List Ap) (x : Ap) : List Int :=
 (((if Qfp x.code && (Qfp x.city && QiX x.ctry) then [] else [5]) ++ (if q.any (fun y => y.code == x.code) then [6] else [])) ++ (if q.any (fun y => y.city == x.city && !(y.ctry == x.ctry)) then [8] else [])) ++ (if Qe5 x.off x.sh != 0 then [Qe5 x.off x.sh] else [])
theorem Qtm (q : List Ap) (x : Ap) : (airE q x).length ≤ 4 := by
 have h : ∀ (c : Bool) (e : Int), (if c then [e] else [] : List Int).length ≤ 1 := fun c e => by cases c <;> simp
 unfold airE
 rw [List.length_append, List.length_append, List.length_append]
 have := Qm5 (Qfp x.code && (Qfp x.city && QiX x.ctry)) 5
 have := h (q.any (fun y => y.code == x.code)) 6
 have := h (q.any (fun y => y.city == x.city && !(y.ctry == x.ctry))) 8
 have := h (Qe5 x.off x.sh != 0) (Qe5 x.off x.sh)
 omega
theorem Qxh (n : Nat) (p : Pc) (q t : List Ap) (x : Ap) (h : q ++ x :: t = p.aps) (hl : p.aps.length ≤ 1000) (yD : Bool) (l17 : List (List CV)) (c6 : List CV) (wd wg : CV) :
  ∀ (s r : List Ap) (tw mv : Bool) (k : Nat), r ++ s = q → s.length < k →
   Qcb lb n k p.an (p.aps.map apcv) p.dn (p.dis.map dicv) (q.length : Int) yD l17 c6 (.str x.code) (.str x.city) (.str x.ctry) wd wg tw mv (r.length : Int) =
   QfO lb n p.an (p.aps.map apcv) p.dn (p.dis.map dicv) (q.length : Int) yD l17 c6 (.str x.code) (.str x.city) (.str x.ctry) wd wg (tw || s.any (fun y => y.code == x.code)) (mv || s.any (fun y => y.city == x.city && !(y.ctry == x.ctry))) (q.length : Int)
 | [], r, tw, mv, k, hr, hk => by
  obtain ⟨k, rfl⟩ : ∃ m, k = m + 1 := ⟨k - 1, by simp at hk; omega⟩
  have hr : r = q := by simpa using hr
  subst hr
  rw [Qg6, decF (by omega), cond_false]
  simp
 | y :: s, r, tw, mv, k, hr, hk => by
  obtain ⟨k, rfl⟩ : ∃ m, k = m + 1 := ⟨k - 1, by simp at hk; omega⟩
  have hql : q.length = r.length + (s.length + 1) := by rw [← hr]; simp
  have hpl : p.aps.length = q.length + (t.length + 1) := by rw [← h]; simp
  have hat : atL (p.aps.map apcv) (r.length : Int) = some (apcv y) := Qa5 (by rw [← h, ← hr]; simp)
  have hw : IntKind.wrap .i64 ((r.length : Int) + 1) = ((r ++ [y]).length : Int) := by rw [QaB (by omega) (by omega)]; simp
  have ih := fun tw mv => Qxh n p q t x h hl yD l17 c6 wd wg s (r ++ [y]) tw mv k (by rw [← hr]; simp) (by simp at hk; omega)
  rw [Qg6]
  refine stT (decT (by omega)) ?_
  rw [hw]
  simp only [hat, apcv, QaC, QaH, QaF, Qa0, QaX, Qa4, Qa3, get0, get1, get2, get3, QaL, cond_true, cond_false, List.length_cons, List.length_nil, Nat.zero_add, Nat.reduceAdd, Nat.reduceBEq, beq_self_eq_true, Qaw, Qas, get4, List.any_cons]
  cases tw with
  | true =>
   simp only [cond_true, Bool.true_or]
   cases mv with
   | true =>
    simp only [cond_true, Bool.true_or]
    rw [ih]; simp
   | false =>
    simp only [cond_false, Bool.false_or]
    cases hc : (y.city == x.city) with
    | true =>
     simp only [cond_true, Bool.true_and]
     rw [ih]; simp
    | false =>
     simp only [cond_false, Bool.false_and, Bool.false_or]
     rw [ih]; simp
  | false =>
   simp only [cond_false, Bool.false_or]
   cases mv with
   | true =>
    simp only [cond_true, Bool.true_or]
    rw [ih]; simp
   | false =>
    simp only [cond_false, Bool.false_or]
    cases hc : (y.city == x.city) with
    | true =>
     simp only [cond_true, Bool.true_and]
     rw [ih]
    | false =>
     simp only [cond_false, Bool.false_and, Bool.false_or]
     rw [ih]; simp
theorem Qzg (n : Nat) (ja : Bool) (aair2 : List (List CV)) (jb : Bool) (adis4 : List (List CV)) (b5 : Int) (yU yV : Bool) (vR : Int) (c6 : List CV) (x7 x9 jQ wd wg : CV) (E : List Int) (hE : E.length ≤ 1000) (z : Int) (h : C lb n QbJ [.agg [wd, wg]] = some (.int .i64 z)) :
  QfK lb n ja aair2 jb adis4 b5 yU yV vR c6 x7 x9 jQ wd wg E.isEmpty (E.map ienc) = some (.list (E ++ if z != 0 then [z] else []).isEmpty ((E ++ if z != 0 then [z] else []).map ienc)) := by
 rw [QnS]
 refine stO _ h (stO _ rfl ?_)
 simp only [Qas, QaL]
 exact QdT (enc := ienc) (z != 0) E z 8 (by decide) (by omega) (fun b l => some (.list b l))
theorem Qzv (n : Nat) (ja : Bool) (aair2 : List (List CV)) (jb : Bool) (adis4 : List (List CV)) (b5 : Int) (yD : Bool) (l17 : List (List CV)) (c6 : List CV) (x7 x9 jQ wd wg : CV) (yU yV : Bool) (vR : Int) (E : List Int) (hE : E.length ≤ 10) (hb : yD = E.isEmpty) (hl : l17 = E.map ienc) (z : Int) (h : C lb n QbJ [.agg [wd, wg]] = some (.int .i64 z)) :
  QfO lb n ja aair2 jb adis4 b5 yD l17 c6 x7 x9 jQ wd wg yU yV vR = some (.list (((E ++ if yU then [6] else []) ++ if yV then [8] else []) ++ if z != 0 then [z] else []).isEmpty ((((E ++ if yU then [6] else []) ++ if yV then [8] else []) ++ if z != 0 then [z] else []).map ienc)) := by
 subst hb; subst hl
 have o : ∀ (c : Bool) (e : Int), (if c then [e] else [] : List Int).length ≤ 1 := fun c e => by cases c <;> simp
 rw [QnR]
 refine (QdT (enc := ienc) yU E 6 8 (by decide) (by omega) _).trans ?_
 have hl1 : (E ++ if yU then [6] else []).length ≤ 11 := by rw [List.length_append]; have := o yU 6; omega
 generalize (E ++ if yU then [6] else []) = E1 at hl1
 rw [QnO]
 refine (QdT (enc := ienc) yV E1 8 8 (by decide) (by omega) _).trans ?_
 have hl2 : (E1 ++ if yV then [8] else []).length ≤ 12 := by rw [List.length_append]; have := o yV 8; omega
 generalize (E1 ++ if yV then [8] else []) = E2 at hl2
 exact Qzg lb (hE := by omega) (h := h) ..
theorem Qpy (p : Pc) (q t : List Ap) (x : Ap) (h : q ++ x :: t = p.aps) (hl : p.aps.length ≤ 1000) (h1 : x.code.length ≤ 281474976710656) (h2 : x.city.length ≤ 281474976710656) (h3 : x.ctry.length ≤ 281474976710656) :
  Ret lb QaU [pcv p, .int .i64 (q.length : Int)] (.list (airE q x).isEmpty ((airE q x).map ienc)) := by
 have hat : atL (p.aps.map apcv) (q.length : Int) = some (apcv x) := Qa5 (by rw [← h]; simp)
 have hpl : p.aps.length = q.length + (t.length + 1) := by rw [← h]; simp
 refine .top rfl (Evt.imp2 (Evt.imp2 (Evt.imp2 (Qju lb x.code h1) (Qju lb x.city h2) fun n a b => And.intro a b) (QpJ lb x.ctry h3) fun n a b => And.intro a b) (Evt.and (Qse lb x.off x.sn x.sh) (Evt.ge (q.length + 1))) fun n hc hz => ?_)
 obtain ⟨⟨a1, a2⟩, a3⟩ := hc
 obtain ⟨hz, hn⟩ := hz
 rw [Qqv]
 refine stO _ hat (stC rfl (stO _ rfl (stO _ rfl (stO _ rfl (stO _ rfl (stO _ rfl (stO _ a1 (stO _ rfl ?_))))))))
 have fin : ∀ (E : List Int), E.length ≤ 10 → QdL lb n p.an (p.aps.map apcv) p.dn (p.dis.map dicv) (q.length : Int) (apcv x) (.str x.code) (.str x.city) (.str x.ctry) (.int .i64 x.off) (.list x.sn (x.sh.map shcv)) E.isEmpty (E.map ienc) =
   some (.list (((E ++ if q.any (fun y => y.code == x.code) then [6] else []) ++ if q.any (fun y => y.city == x.city && !(y.ctry == x.ctry)) then [8] else []) ++ if Qe5 x.off x.sh != 0 then [Qe5 x.off x.sh] else []).isEmpty
    ((((E ++ if q.any (fun y => y.code == x.code) then [6] else []) ++ if q.any (fun y => y.city == x.city && !(y.ctry == x.ctry)) then [8] else []) ++ if Qe5 x.off x.sh != 0 then [Qe5 x.off x.sh] else []).map ienc)) := by
  intro E hE
  rw [QnU]
  refine (Qxh lb n p q t x h hl _ _ _ _ _ q [] false false n rfl (by omega)).trans ?_
  rw [Bool.false_or, Bool.false_or]
  exact Qzv lb (hE := hE) (hb := rfl) (hl := rfl) (h := hz) ..
 unfold airE
 cases Qfp x.code with
 | false => exact stT rfl (fin [5] (by simp))
 | true =>
  refine stF rfl (stO _ a2 (stO _ rfl ?_))
  cases Qfp x.city with
  | false => exact stT rfl (fin [5] (by simp))
  | true =>
   refine stF rfl (stO _ a3 (stO _ rfl ?_))
   cases QiX x.ctry with
   | false => exact stT rfl (fin [5] (by simp))
   | true => exact stF rfl (fin [] (by simp))
end Go.Proofs
set_option linter.unusedSimpArgs false
namespace Go.Proofs
open Go.Am
variable (lb : Nat)
def QhG (s : Bs) : List Ap → Option Ap
 | [] => none
 | a :: t => if a.city = s then some a else QhG s t
def QvI (s : Bs) (l : List Ap) : CV := .tup [.agg (apcv ((QhG s l).getD ap0)), .bool (QhG s l).isSome]
theorem Qm7 (p : Pc) (s : Bs) (hp : p.aps.length ≤ 281474976710656) : Ret lb Qcd [pcv p, .str s] (QvI s p.aps) := by
 refine .top rfl (.eq (fun n => by rw [QuS]) ?_)
 refine Evt.diag (m := p.aps.length) (QdA (enc := apcv) (l := p.aps) hp (P := fun q t n k => Qhy lb n k p.an (p.aps.map apcv) p.dn (p.dis.map dicv) s (q.length : Int) = some (QvI s t)) ?_ ?_ p.aps [] rfl)
 ·refine .all fun n k => ?_
  rw [Qi4, decF (by simp), cond_false, Qq2]
  rfl
 ·intro q x t hq hlt hat hw hev
  refine hev.mono fun n hn k hk => ?_
  have hn := hn k hk
  rw [Qi4, decT hlt, cond_true]
  simp only [hat, apcv, QaC, QaH, QaF, Qa0, QaX, Qa4, Qa3, get0, get1, get2, get3, QaL, cond_true, cond_false, List.length_cons, List.length_nil, Nat.zero_add, Nat.reduceAdd, Nat.reduceBEq, beq_self_eq_true, Qaw, Qas, get4, hw]
  unfold QvI QhG
  by_cases h : x.city = s
  ·rw [show (x.city == s) = true by simpa using h, cond_true, if_pos h]
   rfl
  ·rw [show (x.city == s) = false by simpa using h, cond_false, if_neg h]
   exact hn
def miB (m : Int) : Bool := decide (1 ≤ m ∧ m ≤ 20000)
theorem QqQ (d : Di) : Ret lb Qfs [.agg (dicv d)] (.bool (miB d.mi)) := by
 refine .top rfl (.all fun n => ?_)
 rw [dicv, Qsq]
 unfold miB
 by_cases h : d.mi ≥ 1
 ·rw [decT h, cond_true]
  congr 2
  exact decide_eq_decide.2 ⟨fun q => ⟨h, q⟩, fun q => q.2⟩
 ·rw [decF h, cond_false, decF (by omega)]
def QnB (x y : Di) : Bool := (y.fro == x.fro && y.to == x.to) || (y.fro == x.to && y.to == x.fro)
def disE (aps : List Ap) (q : List Di) (x : Di) : List Int :=
 ((if (QhG x.fro aps).isSome && (QhG x.to aps).isSome then [] else [14]) ++ (if q.any (QnB x) then [6] else [])) ++ (if !miB x.mi || x.fro == x.to then [2] else [])
theorem Qua (aps : List Ap) (q : List Di) (x : Di) : (disE aps q x).length ≤ 3 := by
 have h : ∀ (c : Bool) (e : Int), (if c then [e] else [] : List Int).length ≤ 1 := fun c e => by cases c <;> simp
 unfold disE
 rw [List.length_append, List.length_append]
 have := Qm5 ((QhG x.fro aps).isSome && (QhG x.to aps).isSome) 14
 have := h (q.any (QnB x)) 6
 have := h (!miB x.mi || x.fro == x.to) 2
 omega
theorem Qzd (n : Nat) (ja : Bool) (aair2 : List (List CV)) (jb : Bool) (adis4 : List (List CV)) (b5 : Int) (yb wD : CV) (vN : Bool) (ky : Int) (c6 : List CV) (x7 x9 jQ yh wA w6 wI wJ w7 wz ya wb wx wH wj wS wC : CV) (E : List Int) (hE : E.length ≤ 1000) (d : Di) (h7 : x7 = .str d.fro) (h9 : x9 = .str d.to) (h10 : jQ = .int .i64 d.mi) (h : C lb n Qfs [.agg (dicv d)] = some (.bool (miB d.mi))) :
  Qff lb n ja aair2 jb adis4 b5 yb wD vN ky c6 x7 x9 jQ yh wA w6 wI wJ w7 wz ya wb wx wH wj wS wC E.isEmpty (E.map ienc) = some (.list (E ++ if !miB d.mi || d.fro == d.to then [2] else []).isEmpty ((E ++ if !miB d.mi || d.fro == d.to then [2] else []).map ienc)) := by
 subst h7; subst h9; subst h10
 rw [Qmq]
 refine stO _ h (stO _ rfl ?_)
 have e : ∀ x y : Option CV, (bif !miB d.mi then x else optO (CV.asS (.str d.fro)) fun nq => optO (CV.asS (.str d.to)) fun na => bif nq == na then x else y) = (bif !miB d.mi || d.fro == d.to then x else y) := fun x y => by
  cases miB d.mi <;> rfl
 refine (e _ _).trans ?_
 exact QdT (enc := ienc) (!miB d.mi || d.fro == d.to) E 2 8 (by decide) (by omega) (fun b l => some (.list b l))
theorem QzE (n : Nat) (ja : Bool) (aair2 : List (List CV)) (jb : Bool) (adis4 : List (List CV)) (b5 : Int) (yX : Bool) (l37 : List (List CV)) (yb wD : CV) (c6 : List CV) (x7 x9 jQ yh wA w6 wI wJ w7 wz ya wb wx wH wj wS wC : CV) (vN : Bool) (ky : Int) (E : List Int) (hE : E.length ≤ 100) (hb : yX = E.isEmpty) (hl : l37 = E.map ienc) (d : Di) (h7 : x7 = .str d.fro) (h9 : x9 = .str d.to) (h10 : jQ = .int .i64 d.mi) (h : C lb n Qfs [.agg (dicv d)] = some (.bool (miB d.mi))) :
  Qfb lb n ja aair2 jb adis4 b5 yX l37 yb wD c6 x7 x9 jQ yh wA w6 wI wJ w7 wz ya wb wx wH wj wS wC vN ky = some (.list ((E ++ if vN then [6] else []) ++ if !miB d.mi || d.fro == d.to then [2] else []).isEmpty (((E ++ if vN then [6] else []) ++ if !miB d.mi || d.fro == d.to then [2] else []).map ienc)) := by
 subst hb; subst hl
 have o : ∀ (c : Bool) (e : Int), (if c then [e] else [] : List Int).length ≤ 1 := fun c e => by cases c <;> simp
 rw [Qm6]
 refine (QdT (enc := ienc) vN E 6 8 (by decide) (by omega) _).trans ?_
 have hl1 : (E ++ if vN then [6] else []).length ≤ 101 := by rw [List.length_append]; have := o vN 6; omega
 generalize (E ++ if vN then [6] else []) = E1 at hl1
 exact Qzd lb (hE := by omega) (d := d) (h7 := h7) (h9 := h9) (h10 := h10) (h := h) ..
theorem Qzk (p : Pc) (q t : List Di) (x : Di) (h : q ++ x :: t = p.dis) (hl : p.dis.length ≤ 1000) (n : Nat) (ja : Bool) (aair2 : List (List CV)) (jb : Bool) (adis4 : List (List CV)) (b5 : Int) (yX : Bool) (l37 : List (List CV)) (yb wD : CV) (c6 : List CV) (x7 x9 jQ yh wA w6 wI wJ w7 wz ya wb wx wH wj wS wC : CV) (ha : adis4 = p.dis.map dicv) (hb : b5 = (q.length : Int)) (h7 : x7 = .str x.fro) (h9 : x9 = .str x.to) :
  ∀ (s r : List Di) (tw : Bool) (k : Nat), r ++ s = q → s.length < k →
   QbX lb n k ja aair2 jb adis4 b5 yX l37 yb wD c6 x7 x9 jQ yh wA w6 wI wJ w7 wz ya wb wx wH wj wS wC tw (r.length : Int) = Qfb lb n ja aair2 jb adis4 b5 yX l37 yb wD c6 x7 x9 jQ yh wA w6 wI wJ w7 wz ya wb wx wH wj wS wC (tw || s.any (QnB x)) (q.length : Int) := by
 subst h7; subst h9; subst hb; subst ha
 intro s
 induction s with
 | nil =>
  intro r tw k hr hk
  obtain ⟨k, rfl⟩ : ∃ m, k = m + 1 := ⟨k - 1, by simp at hk; omega⟩
  have hr : r = q := by simpa using hr
  subst hr
  rw [Qg0, decF (by omega), cond_false]
  simp
 | cons y s ih =>
  intro r tw k hr hk
  obtain ⟨k, rfl⟩ : ∃ m, k = m + 1 := ⟨k - 1, by simp at hk; omega⟩
  have hql : q.length = r.length + (s.length + 1) := by rw [← hr]; simp
  have hpl : p.dis.length = q.length + (t.length + 1) := by rw [← h]; simp
  have hat : atL (p.dis.map dicv) (r.length : Int) = some (dicv y) := Qa5 (by rw [← h, ← hr]; simp)
  have hw : IntKind.wrap .i64 ((r.length : Int) + 1) = ((r ++ [y]).length : Int) := by rw [QaB (by omega) (by omega)]; simp
  have ih := fun tw => ih (r ++ [y]) tw k (by rw [← hr]; simp) (by simp at hk; omega)
  rw [Qg0]
  refine stT (decT (by omega)) ?_
  rw [hw]
  simp only [hat, dicv, QaC, QaH, QaF, Qa0, QaX, Qa4, Qa3, get0, get1, get2, get3, QaL, cond_true, cond_false, List.length_cons, List.length_nil, Nat.zero_add, Nat.reduceAdd, Nat.reduceBEq, beq_self_eq_true, Qaw, Qas, List.any_cons]
  unfold QnB at ih ⊢
  cases tw with
  | true =>
   simp only [cond_true, Bool.true_or]
   rw [ih]; simp
  | false =>
   simp only [cond_false, Bool.false_or]
   cases (y.fro == x.fro) with
   | true =>
    simp only [cond_true, Bool.true_and]
    cases (y.to == x.to) with
    | true =>
     simp only [cond_true, Bool.true_or]
     rw [ih]; simp
    | false =>
     simp only [cond_false, Bool.false_or]
     cases (y.fro == x.to) with
     | true =>
      simp only [cond_true, Bool.true_and]
      rw [ih]
     | false =>
      simp only [cond_false, Bool.false_and, Bool.false_or]
      rw [ih]; simp
   | false =>
    simp only [cond_false, Bool.false_and, Bool.false_or]
    cases (y.fro == x.to) with
    | true =>
     simp only [cond_true, Bool.true_and]
     rw [ih]
    | false =>
     simp only [cond_false, Bool.false_and, Bool.false_or]
     rw [ih]; simp
theorem Qo1 (p : Pc) (q t : List Di) (x : Di) (h : q ++ x :: t = p.dis) (hl : p.dis.length ≤ 1000) (hp : p.aps.length ≤ 281474976710656) :
  Ret lb QaY [pcv p, .int .i64 (q.length : Int)] (.list (disE p.aps q x).isEmpty ((disE p.aps q x).map ienc)) := by
 have hat : atL (p.dis.map dicv) (q.length : Int) = some (dicv x) := Qa5 (by rw [← h]; simp)
 have hpl : p.dis.length = q.length + (t.length + 1) := by rw [← h]; simp
 refine .top rfl (Evt.imp2 (Evt.imp2 (Qm7 lb p x.fro hp) (Qm7 lb p x.to hp) fun n a b => And.intro a b) (Evt.and (QqQ lb x) (Evt.ge (q.length + 1))) fun n hc hz => ?_)
 obtain ⟨a1, a2⟩ := hc
 obtain ⟨hz, hn⟩ := hz
 rw [Qpd]
 refine stO _ hat (stC rfl (stO _ rfl (stO _ rfl (stO _ rfl (stO _ a1 (stO _ rfl (stO _ rfl (stO _ rfl (stO _ rfl (stO _ rfl (stC rfl (stO _ rfl (stO _ rfl (stO _ rfl (stO _ rfl (stO _ rfl (stO _ a2 (stO _ rfl (stO _ rfl (stO _ rfl (stO _ rfl (stO _ rfl (stC rfl (stO _ rfl (stO _ rfl (stO _ rfl (stO _ rfl (stO _ rfl (stO _ rfl ?_)))))))))))))))))))))))))))))
 have fin : ∀ (E : List Int), E.length ≤ 10 → ∀ yb wD yh wA w6 wI wJ w7 wz ya wb wx wH wj wS wC, Qd0 lb n p.an (p.aps.map apcv) p.dn (p.dis.map dicv) (q.length : Int) yb wD (dicv x) (.str x.fro) (.str x.to) (.int .i64 x.mi) yh wA w6 wI wJ w7 wz ya wb wx wH wj wS wC E.isEmpty (E.map ienc) =
   some (.list ((E ++ if q.any (QnB x) then [6] else []) ++ if !miB x.mi || x.fro == x.to then [2] else []).isEmpty (((E ++ if q.any (QnB x) then [6] else []) ++ if !miB x.mi || x.fro == x.to then [2] else []).map ienc)) := by
  intro E hE yb wD yh wA w6 wI wJ w7 wz ya wb wx wH wj wS wC
  rw [Qmt]
  refine (Qzk lb p q t x h hl _ _ _ _ _ _ _ _ _ _ _ _ _ _ _ _ _ _ _ _ _ _ _ _ _ _ _ _ rfl rfl rfl rfl q [] false n rfl (by omega)).trans ?_
  rw [Bool.false_or]
  exact QzE lb (hE := by omega) (hb := rfl) (hl := rfl) (d := x) (h7 := rfl) (h9 := rfl) (h10 := rfl) (h := hz) ..
 unfold disE
 cases (QhG x.fro p.aps).isSome with
 | false => exact stT rfl (fin [14] (by simp) ..)
 | true =>
  refine stF rfl (stO _ rfl ?_)
  cases (QhG x.to p.aps).isSome with
  | false => exact stT rfl (fin [14] (by simp) ..)
  | true => exact stF rfl (fin [] (by simp) ..)
def QeK : Bs := [97, 105, 114, 112, 111, 114, 116, 32]
def QdY : Bs := [100, 105, 115, 116, 97, 110, 99, 101, 32]
def Qco : List Ap → List Ap → List Ft
 | _, [] => []
 | q, x :: t => (airE q x).map (fun e => (e, QeK ++ Lib.itoa (q.length : Int))) ++ Qco (q ++ [x]) t
def Qcr (aps : List Ap) : List Di → List Di → List Ft
 | _, [] => []
 | q, x :: t => (disE aps q x).map (fun e => (e, QdY ++ Lib.itoa (q.length : Int))) ++ Qcr aps (q ++ [x]) t
def Qhe (p : Pc) : List Ft := Qco [] p.aps ++ Qcr p.aps [] p.dis
theorem QpE : ∀ (a r t : List Ap), Qco r (a ++ t) = Qco r a ++ Qco (r ++ a) t
 | [], r, t => by simp [Qco]
 | x :: a, r, t => by simp only [List.cons_append, Qco, QpE a (r ++ [x]) t, List.append_assoc, List.nil_append]
theorem Qlt : ∀ (t r : List Ap), (Qco r t).length ≤ 4 * t.length
 | [], r => by simp [Qco]
 | x :: t, r => by
  have := Qlt t (r ++ [x])
  have := Qtm r x
  simp only [Qco, List.length_append, List.length_map, List.length_cons]
  omega
theorem QuR (q : List Ap) (x : Ap) : Qco [] (q ++ [x]) = Qco [] q ++ (airE q x).map (fun e => (e, QeK ++ Lib.itoa (q.length : Int))) := by
 rw [QpE]; simp [Qco]
theorem QpO (aps : List Ap) : ∀ (a r t : List Di), Qcr aps r (a ++ t) = Qcr aps r a ++ Qcr aps (r ++ a) t
 | [], r, t => by simp [Qcr]
 | x :: a, r, t => by simp only [List.cons_append, Qcr, QpO aps a (r ++ [x]) t, List.append_assoc, List.nil_append]
theorem Qp4 (aps : List Ap) : ∀ (t r : List Di), (Qcr aps r t).length ≤ 3 * t.length
 | [], r => by simp [Qcr]
 | x :: t, r => by
  have := Qp4 aps t (r ++ [x])
  have := Qua aps r x
  simp only [Qcr, List.length_append, List.length_map, List.length_cons]
  omega
theorem QuN (aps : List Ap) (q : List Di) (x : Di) : Qcr aps [] (q ++ [x]) = Qcr aps [] q ++ (disE aps q x).map (fun e => (e, QdY ++ Lib.itoa (q.length : Int))) := by
 rw [QpO]; simp [Qcr]
theorem QwN (p : Pc) (yJ : Int) (i : Nat) (hi : i ≤ 1000) (E : List Int) (hE : E.length ≤ 1000) (F : List Ft) (hF : F.length ≤ 10000) (r : CV) :
  ∀ u q, q ++ u = E → Evt fun n => ∀ j k, u.length < j →
   Qeu lb n k p.an (p.aps.map apcv) p.dn (p.dis.map dicv) yJ (F ++ E.map fun e => (e, QdY ++ Lib.itoa (i : Int))).isEmpty ((F ++ E.map fun e => (e, QdY ++ Lib.itoa (i : Int))).map Qa7) (IntKind.wrap .i64 ((i : Int) + 1)) = some r →
   QgE lb n j k p.an (p.aps.map apcv) p.dn (p.dis.map dicv) yJ (i : Int) (.list E.isEmpty (E.map ienc)) (F ++ q.map fun e => (e, QdY ++ Lib.itoa (i : Int))).isEmpty ((F ++ q.map fun e => (e, QdY ++ Lib.itoa (i : Int))).map Qa7) (q.length : Int) = some r
 | [], q, h => .all fun n j k hj hr => by
  obtain ⟨j, rfl⟩ : ∃ m, j = m + 1 := ⟨j - 1, by simp at hj; omega⟩
  have h : q = E := by simpa using h
  subst h
  rw [Qih]
  refine stO _ rfl (stF (decF (by simp)) ?_)
  rw [QpW]
  exact hr
 | e :: u, q, h => by
  have hq : E.length = q.length + (u.length + 1) := by rw [← h]; simp
  have hat : atL (E.map ienc) (q.length : Int) = some (ienc e) := Qa5 (by rw [← h]; simp)
  have hil := QeB (z := (i : Int)) (by omega) (by omega)
  refine (Evt.imp2 (QwN p yJ i hi E hE F hF r u (q ++ [e]) (by rw [← h]; simp)) (Qfe lb (i : Int) (by omega) (by omega)) fun n h1 h2 => ?_)
  intro j k hj hr
  obtain ⟨j, rfl⟩ : ∃ m, j = m + 1 := ⟨j - 1, by simp at hj; omega⟩
  have h1 := h1 j k (by simp at hj; omega) hr
  rw [Qih]
  refine stO _ rfl (stT (decT (by simp; omega)) (stO _ rfl (stO _ hat (stC rfl (stO _ rfl (stO _ h2 (stO _ rfl (stC (decT (by simp; omega)) (stC rfl (stC (Qce (by simp; omega) (by omega)) ?_))))))))))
  rw [QaB (by omega) (by omega), show (q.length : Int) + 1 = ((q ++ [e]).length : Int) by simp, QcS (F ++ q.map fun e => (e, QdY ++ Lib.itoa (i : Int))) (e, QdY ++ Lib.itoa (i : Int))]
  simpa [List.map_append, List.append_assoc, Qa7, QdY] using h1
theorem Qwm (p : Pc) (i : Nat) (hi : i ≤ 1000) (E : List Int) (hE : E.length ≤ 1000) (F : List Ft) (hF : F.length ≤ 10000) (r : CV) :
  ∀ u q, q ++ u = E → Evt fun n => ∀ j k, u.length < j →
   Qfk lb n k p.an (p.aps.map apcv) p.dn (p.dis.map dicv) (F ++ E.map fun e => (e, QeK ++ Lib.itoa (i : Int))).isEmpty ((F ++ E.map fun e => (e, QeK ++ Lib.itoa (i : Int))).map Qa7) (IntKind.wrap .i64 ((i : Int) + 1)) = some r →
   QgL lb n j k p.an (p.aps.map apcv) p.dn (p.dis.map dicv) (i : Int) (.list E.isEmpty (E.map ienc)) (F ++ q.map fun e => (e, QeK ++ Lib.itoa (i : Int))).isEmpty ((F ++ q.map fun e => (e, QeK ++ Lib.itoa (i : Int))).map Qa7) (q.length : Int) = some r
 | [], q, h => .all fun n j k hj hr => by
  obtain ⟨j, rfl⟩ : ∃ m, j = m + 1 := ⟨j - 1, by simp at hj; omega⟩
  have h : q = E := by simpa using h
  subst h
  rw [Qid]
  refine stO _ rfl (stF (decF (by simp)) ?_)
  rw [Qqf]
  exact hr
 | e :: u, q, h => by
  have hq : E.length = q.length + (u.length + 1) := by rw [← h]; simp
  have hat : atL (E.map ienc) (q.length : Int) = some (ienc e) := Qa5 (by rw [← h]; simp)
  have hil := QeB (z := (i : Int)) (by omega) (by omega)
  refine (Evt.imp2 (Qwm p i hi E hE F hF r u (q ++ [e]) (by rw [← h]; simp)) (Qfe lb (i : Int) (by omega) (by omega)) fun n h1 h2 => ?_)
  intro j k hj hr
  obtain ⟨j, rfl⟩ : ∃ m, j = m + 1 := ⟨j - 1, by simp at hj; omega⟩
  have h1 := h1 j k (by simp at hj; omega) hr
  rw [Qid]
  refine stO _ rfl (stT (decT (by simp; omega)) (stO _ rfl (stO _ hat (stC rfl (stO _ rfl (stO _ h2 (stO _ rfl (stC (decT (by simp; omega)) (stC rfl (stC (Qce (by simp; omega) (by omega)) ?_))))))))))
  rw [QaB (by omega) (by omega), show (q.length : Int) + 1 = ((q ++ [e]).length : Int) by simp, QcS (F ++ q.map fun e => (e, QeK ++ Lib.itoa (i : Int))) (e, QeK ++ Lib.itoa (i : Int))]
  simpa [List.map_append, List.append_assoc, Qa7, QeK] using h1
theorem Qzy (p : Pc) (h1 : p.aps.length ≤ 1000) (h2 : p.dis.length ≤ 1000) (yJ : Int) (F : List Ft) (hF : F.length ≤ 5000) : Evt fun n => Qeu lb n n p.an (p.aps.map apcv) p.dn (p.dis.map dicv) yJ F.isEmpty (F.map Qa7) 0 = some (QbW (F ++ Qcr p.aps [] p.dis)) := by
 have key := QdA (enc := dicv) (l := p.dis) (by omega) (P := fun q t n k => Qeu lb n k p.an (p.aps.map apcv) p.dn (p.dis.map dicv) yJ (F ++ Qcr p.aps [] q).isEmpty ((F ++ Qcr p.aps [] q).map Qa7) (q.length : Int) = some (QbW (F ++ Qcr p.aps [] p.dis))) (by
  refine .all fun n k => ?_
  rw [Qik]
  refine stF (decF (by simp)) ?_
  rw [Qqe]
  rfl) (by
  intro q x t hq hlt hat hw hev
  have hll : p.dis.length = q.length + (t.length + 1) := by rw [← hq]; simp
  have hFl : (F ++ Qcr p.aps [] q).length ≤ 10000 := by rw [List.length_append]; have := Qp4 p.aps q []; omega
  have hlE := Qua p.aps q x
  have inner := QwN lb p yJ q.length (by omega) (disE p.aps q x) (by omega) (F ++ Qcr p.aps [] q) hFl (QbW (F ++ Qcr p.aps [] p.dis)) (disE p.aps q x) [] rfl
  refine Evt.imp2 hev (Evt.imp2 (inner.and (Evt.ge 5)) (Qo1 lb p q t x hq h2 (by omega)) fun n a b => And.intro a b) fun n hn hc k hk => ?_
  obtain ⟨⟨a1, a2⟩, a3⟩ := hc
  have hn := hn k hk
  rw [Qik]
  refine stT (decT hlt) (stO _ a3 ?_)
  rw [QuN, ← List.append_assoc] at hn
  have a1 := a1 n k (by omega) (by rw [hw]; exact hn)
  simpa using a1) p.dis [] rfl
 refine (Evt.diag key).mono fun n hn => ?_
 simpa [Qcr] using hn
theorem QsC (p : Pc) (h1 : p.aps.length ≤ 1000) (h2 : p.dis.length ≤ 1000) (hs : ∀ a ∈ p.aps, a.code.length ≤ 281474976710656 ∧ a.city.length ≤ 281474976710656 ∧ a.ctry.length ≤ 281474976710656) : Ret lb Qak [pcv p] (QbW (Qhe p)) := by
 refine .top rfl (.eq (fun n => by rw [Qtn]) ?_)
 have key := QdA (enc := apcv) (l := p.aps) (by omega) (P := fun q t n k => Qfk lb n k p.an (p.aps.map apcv) p.dn (p.dis.map dicv) (Qco [] q).isEmpty ((Qco [] q).map Qa7) (q.length : Int) = some (QbW (Qhe p))) (by
  have hF := Qlt p.aps []
  refine (Qzy lb p h1 h2 (p.aps.length : Int) (Qco [] p.aps) (by omega)).mono fun n hn k => ?_
  rw [Qie]
  refine stF (decF (by simp)) ?_
  rw [QpP]
  exact hn) (by
  intro q x t hq hlt hat hw hev
  have hll : p.aps.length = q.length + (t.length + 1) := by rw [← hq]; simp
  have hFl : (Qco [] q).length ≤ 10000 := by have := Qlt q []; omega
  have hlE := Qtm q x
  obtain ⟨b1, b2, b3⟩ := hs x (by rw [← hq]; simp)
  have inner := Qwm lb p q.length (by omega) (airE q x) (by omega) (Qco [] q) hFl (QbW (Qhe p)) (airE q x) [] rfl
  refine Evt.imp2 hev (Evt.imp2 (inner.and (Evt.ge 5)) (Qpy lb p q t x hq h1 b1 b2 b3) fun n a b => And.intro a b) fun n hn hc k hk => ?_
  obtain ⟨⟨a1, a2⟩, a3⟩ := hc
  have hn := hn k hk
  rw [Qie]
  refine stT (decT hlt) (stO _ a3 ?_)
  rw [QuR] at hn
  have a1 := a1 n k (by omega) (by rw [hw]; exact hn)
  simpa using a1) p.aps [] rfl
 exact Evt.diag key
theorem Quj {p : Pc} (h : Qhe p = []) : ∀ a ∈ p.aps, Qe5 a.off a.sh = 0 := by
 have h1 : Qco [] p.aps = [] := (List.append_eq_nil_iff.1 h).1
 have gen : ∀ (t r : List Ap), Qco r t = [] → ∀ a ∈ t, Qe5 a.off a.sh = 0 := by
  intro t
  induction t with
  | nil => intro r _ a ha; cases ha
  | cons x t ih =>
   intro r hr a ha
   simp only [Qco] at hr
   obtain ⟨h2, h3⟩ := List.append_eq_nil_iff.1 hr
   rcases List.mem_cons.1 ha with rfl | ha
   ·have : airE r a = [] := by simpa using h2
    unfold airE at this
    have := (List.append_eq_nil_iff.1 this).2
    by_cases hz : Qe5 a.off a.sh = 0
    ·exact hz
    ·rw [if_pos (bneT hz)] at this
     cases this
   ·exact ih _ h3 a ha
 exact gen _ _ h1
theorem QkW {p : Pc} (h1 : p.aps.length ≤ 1000) (h : Qhe p = []) : Qcg p := ⟨by omega, fun a ha => by
 have := Quj h a ha
 unfold Qe5 at this
 split at this
 ·omega
 ·omega⟩
def Qdb (x : Lg) : Nat := x.fro.length + x.to.length + x.eq.length
def bigB (p : Pc) (f : Fl) : Bool := decide (f.car.length + ((f.legs.take 20).map Qdb).sum > 400) || (decide (f.legs.length > 12) || (decide (p.aps.length > 20) || decide (p.dis.length > 40)))
theorem Qok (p : Pc) (f : Fl) (hc : f.car.length ≤ 281474976710656) (hx : ∀ x ∈ f.legs, Qdb x ≤ 1000000000000000) (hl : f.legs.length ≤ 281474976710656) (hp1 : p.aps.length ≤ 281474976710656) (hp2 : p.dis.length ≤ 281474976710656) : Ret lb Qck [pcv p, flcv f] (.bool (bigB p f)) := by
 refine .top rfl (.eq (fun n => by rw [Qvx]) ?_)
 have fin : ∀ (n : Nat) (i : Int) (q : List Lg), q = f.legs.take 20 → Qiy lb n p.an (p.aps.map apcv) p.dn (p.dis.map dicv) f.car f.num f.fr f.to f.days f.ln (f.legs.map lgcv) ((f.car.length + (q.map Qdb).sum : Nat) : Int) i = some (.bool (bigB p f)) := by
  intro n i q hq
  subst hq
  rw [Qsu]
  unfold bigB
  simp only [List.length_map]
  by_cases c1 : f.car.length + ((f.legs.take 20).map Qdb).sum > 400
  ·rw [decT c1, decT (by omega)]; rfl
  rw [decF c1, decF (by omega), cond_false, Bool.false_or]
  by_cases c2 : f.legs.length > 12
  ·rw [decT c2, decT (by omega)]; rfl
  rw [decF c2, decF (by omega), cond_false, Bool.false_or]
  by_cases c3 : p.aps.length > 20
  ·rw [decT c3, decT (by omega)]; rfl
  rw [decF c3, decF (by omega), cond_false, Bool.false_or]
  congr 2
  exact decide_eq_decide.2 (by omega)
 have key := QdA (enc := lgcv) (l := f.legs) (by omega) (P := fun q t n k => q.length ≤ 20 → (q.map Qdb).sum ≤ q.length * 1000000000000000 → r07_Big_L1 lb n k p.an (p.aps.map apcv) p.dn (p.dis.map dicv) f.car f.num f.fr f.to f.days f.ln (f.legs.map lgcv) ((f.car.length + (q.map Qdb).sum : Nat) : Int) (q.length : Int) = some (.bool (bigB p f))) (by
  refine .all fun n k hk _ => ?_
  rw [QjG]
  refine stF (decF (by simp)) ?_
  exact fin n _ _ (by rw [List.take_of_length_le (by omega)])) (by
  intro q x t hq hlt hat hw hev
  refine hev.mono fun n hn k hk hq20 hs => ?_
  have hn := hn k hk
  have hxl := hx x (by rw [← hq]; simp)
  rw [QjG]
  refine stT (decT hlt) ?_
  by_cases c : q.length < 20
  ·refine stT (decT (by omega)) (stO _ hat (stC rfl (stO _ rfl (stO _ rfl (stO _ hat (stC rfl (stO _ rfl (stO _ rfl (stO _ hat (stC rfl (stO _ rfl (stO _ rfl ?_))))))))))))
   have h20 : q.length * 1000000000000000 ≤ 20 * 1000000000000000 := Nat.mul_le_mul (by omega) (Nat.le_refl _)
   unfold Qdb at hxl
   rw [hw, QaB (x := ((f.car.length + (q.map Qdb).sum : Nat) : Int) + (x.fro.length : Int)) (by omega) (by omega), QaB (x := ((f.car.length + (q.map Qdb).sum : Nat) : Int) + (x.fro.length : Int) + (x.to.length : Int)) (by omega) (by omega), QaB (by omega) (by omega)]
   have hn := hn (by simp; omega) (by simp [Qdb]; omega)
   have e : ((f.car.length + ((q ++ [x]).map Qdb).sum : Nat) : Int) = ((f.car.length + (q.map Qdb).sum : Nat) : Int) + (x.fro.length : Int) + (x.to.length : Int) + (x.eq.length : Int) := by
    simp [Qdb]; omega
   rw [← e]
   exact hn
  ·refine stF (decF (by omega)) ?_
   exact fin n _ _ (by rw [← hq, List.take_append, List.take_of_length_le (by omega)]; simp; omega)) f.legs [] rfl
 refine (Evt.diag key).mono fun n hn => ?_
 simpa using hn (by simp) (by simp)
theorem Qw6 : ∀ {l : List Nat} {x : Nat}, x ∈ l → x ≤ l.sum
 | y :: l, x, h => by
  rw [List.sum_cons]
  rcases List.mem_cons.1 h with rfl | h
  ·omega
  ·have := Qw6 h; omega
theorem Qk3 {p : Pc} {f : Fl} (h : bigB p f = false) : f.car.length ≤ 400 ∧ (∀ x ∈ f.legs, x.fro.length ≤ 400 ∧ x.to.length ≤ 400 ∧ x.eq.length ≤ 400) ∧ f.legs.length ≤ 12 ∧ p.aps.length ≤ 20 ∧ p.dis.length ≤ 40 := by
 unfold bigB at h
 simp only [Bool.or_eq_false_iff, decide_eq_false_iff_not] at h
 obtain ⟨h1, h2, h3, h4⟩ := h
 rw [List.take_of_length_le (by omega)] at h1
 refine ⟨by omega, fun x hx => ?_, by omega, by omega, by omega⟩
 have : Qdb x ≤ (f.legs.map Qdb).sum := Qw6 (List.mem_map_of_mem hx)
 have e : Qdb x = x.fro.length + x.to.length + x.eq.length := rfl
 omega
end Go.Proofs
set_option linter.unusedSimpArgs false
set_option linter.unusedVariables false
namespace Go.Proofs
open Go.Am
variable (lb : Nat)
def ArgP (p : Pc) : Prop := p.aps.length ≤ 281474976710656 ∧ p.dis.length ≤ 281474976710656 ∧ ∀ a ∈ p.aps, a.code.length ≤ 281474976710656 ∧ a.city.length ≤ 281474976710656 ∧ a.ctry.length ≤ 281474976710656
def ArgF (f : Fl) : Prop := f.car.length ≤ 281474976710656 ∧ f.legs.length ≤ 281474976710656 ∧ ∀ x ∈ f.legs, Qdb x ≤ 1000000000000000
theorem QyP (p : Pc) (f : Fl) (hp : ArgP p) (hf : ArgF f) : Ret lb Qck [pcv p, flcv f] (.bool (bigB p f)) := Qok lb p f hf.1 hf.2.2 hf.2.1 hp.1 hp.2.1
theorem QtU {fr days d : Int} (h : onF days d = true) : ∀ {k : Nat}, fr ≤ d → d < fr + k → d ∈ upto fr days k
 | 0, h1, h2 => by omega
 | k + 1, h1, h2 => by
  simp only [upto, List.mem_append]
  by_cases e : d = fr + k
  ·subst e; rw [if_pos h]; exact .inr (by simp)
  ·exact .inl (QtU h h1 (by omega))
theorem QwY {fr to days d : Int} (h : hasF fr to days d = true) : d ∈ Qar fr to days := by
 unfold hasF at h
 simp only [Bool.and_eq_true, decide_eq_true_eq] at h
 obtain ⟨h0, h1, h2, h3⟩ := h
 unfold Qar
 rw [if_pos h0]
 exact QtU h3 h1 (by omega)
theorem QrU {p : Pc} {l : List Lg} : ∀ {D : List Int}, Qcn p l D = [] → ∀ d ∈ D, ordF p l d = true
 | d :: D, h, e, he => by
  unfold Qcn at h
  split at h
  ·rcases List.mem_cons.1 he with rfl | he
   ·assumption
   ·exact QrU h e he
  ·cases h
theorem Qix {p : Pc} {f : Fl} (h : Qaz p f = []) : f.legs.length ≤ 6 ∧ 1 ≤ f.legs.length ∧ Qc5 f = [] ∧ QaZ p [] f.legs = [] ∧ ∀ d, hasF f.fr f.to f.days d = true → ordF p f.legs d = true := by
 unfold Qaz at h
 split at h
 ·rename_i hl
  exfalso
  unfold QfM at h
  rw [if_pos (by rw [Bool.or_eq_true, decide_eq_true_eq, decide_eq_true_eq]; omega)] at h
  simp at h
 ·rename_i hl
  split at h
  ·rename_i h2
   obtain ⟨a, b⟩ := List.append_eq_nil_iff.1 h2
   exact ⟨by omega, by omega, a, b, fun d hd => QrU h d (QwY hd)⟩
  ·rename_i h2
   exact absurd h h2
instance : DecidableEq Lg := fun a b => by
 cases a; cases b
 simp only [Lg.mk.injEq]
 infer_instance
def lgB (x y : Lg) : Bool := (x.fro == y.fro) && ((x.to == y.to) && ((x.dep == y.dep) && ((x.arr == y.arr) && ((x.eq == y.eq) && true))))
def lgsB : List Lg → List Lg → Bool
 | [], [] => true
 | x :: a, y :: b => lgB x y && lgsB a b
 | _, _ => false
theorem Qtt : ∀ {a b : List Lg}, lgsB a b = true → a.length = b.length
 | [], [], _ => rfl
 | x :: a, y :: b, h => by
  simp only [lgsB, Bool.and_eq_true] at h
  simp [Qtt h.2]
 | [], y :: b, h => by cases h
 | x :: a, [], h => by cases h
theorem QxW (x : Lg) : lgB x x = true := by simp [lgB]
theorem Qro : ∀ a : List Lg, lgsB a a = true
 | [] => rfl
 | x :: a => by simp [lgsB, QxW, Qro a]
theorem QyX (f : Nat → Nat → Int → Option CV) (an bn : Bool) (a b : List Lg) (hl : a.length ≤ 1000) (he : a.length = b.length)
  (step : ∀ n k q x y, (q : Nat) < a.length → a[q]? = some x → b[q]? = some y → f n (k + 1) (q : Int) = (bif !lgB x y then some (.bool false) else f n k (IntKind.wrap .i64 ((q : Int) + 1)))) (stop : ∀ n k, f n (k + 1) (a.length : Int) = some (.bool true)) :
  Evt fun n => f n n 0 = some (.bool (lgsB a b)) := by
 have key : ∀ (t s q r : List Lg), q ++ t = a → r ++ s = b → q.length = r.length → t.length = s.length → ∀ n k, t.length < k → f n k (q.length : Int) = some (.bool (lgsB t s)) := by
  intro t
  induction t with
  | nil =>
   intro s q r hq hr h1 h2 n k hk
   obtain ⟨k, rfl⟩ : ∃ m, k = m + 1 := ⟨k - 1, by simp at hk; omega⟩
   have : q = a := by simpa using hq
   subst this
   have : s = [] := List.length_eq_zero_iff.1 (by simpa using h2.symm)
   subst this
   exact stop n k
  | cons x t ih =>
   intro s q r hq hr h1 h2 n k hk
   obtain ⟨k, rfl⟩ : ∃ m, k = m + 1 := ⟨k - 1, by simp at hk; omega⟩
   cases s with
   | nil => simp at h2
   | cons y s =>
    have hal : a.length = q.length + (t.length + 1) := by rw [← hq]; simp
    rw [step n k q.length x y (by omega) (by rw [← hq]; simp) (by rw [← hr, h1]; simp)]
    rw [QaB (by omega) (by omega), show (q.length : Int) + 1 = ((q ++ [x]).length : Int) by simp]
    rw [ih s (q ++ [x]) (r ++ [y]) (by rw [← hq]; simp) (by rw [← hr]; simp) (by simp [h1]) (by simpa using h2) n k (by simp at hk; omega)]
    rw [show lgsB (x :: t) (y :: s) = (lgB x y && lgsB t s) from rfl]
    cases lgB x y <;> rfl
 exact ⟨a.length + 1, fun n hn => key a b [] [] rfl rfl rfl he n n (by omega)⟩
theorem Qo3 (an bn : Bool) (a b : List Lg) (hl : a.length ≤ 1000) (hb : b.length ≤ 1000) : Ret lb Qbu [.list an (a.map lgcv), .list bn (b.map lgcv)] (.bool (lgsB a b)) := by
 by_cases he : a.length = b.length
 ·refine .top rfl (.eq (fun n => by rw [QjM, bneF (by simp [he]), cond_false]) (QyX (fun n k i => r07_SameLegs_L1 lb n k an (a.map lgcv) bn (b.map lgcv) i) an bn a b hl he (fun n k q x y hq hx hy => ?_) fun n k => ?_))
  ·have h1 : atL (a.map lgcv) (q : Int) = some (lgcv x) := Qa5 (by simp [hx])
   have h2 : atL (b.map lgcv) (q : Int) = some (lgcv y) := Qa5 (by simp [hy])
   show r07_SameLegs_L1 lb n (k + 1) an (a.map lgcv) bn (b.map lgcv) (q : Int) = _
   rw [Qg2, decT (by simp; omega), cond_true, h1, h2]
   rfl
  ·show r07_SameLegs_L1 lb n (k + 1) an (a.map lgcv) bn (b.map lgcv) (a.length : Int) = _
   rw [Qg2, decF (by simp), cond_false, Qm1]
 ·refine .top rfl (.all fun n => ?_)
  rw [QjM, bneT (by simp; omega), cond_true]
  cases hc : lgsB a b with
  | false => rfl
  | true => exact absurd (Qtt hc) he
def pc0 : Pc := ⟨true, [], true, []⟩
end Go.Proofs
