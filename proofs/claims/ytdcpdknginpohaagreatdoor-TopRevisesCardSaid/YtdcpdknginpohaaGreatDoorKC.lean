/- Chapters 5 and 6 on plain data: what the reference's Check says of places; which flights and places are big. Conditions: as each says. -/
import Derived.Test.YtdcpdknginpohaaGreatDoorKB
import Derived.Test.YtdcpdknginpohaaGreatDoorGc
import Derived.Test.YtdcpdknginpohaaGreatDoorGd
import Derived.Test.YtdcpdknginpohaaGreatDoorW07
set_option linter.unusedSimpArgs false
namespace Go.Proofs
open Go.Am
variable (lb : Nat)
def okO (o : Int) : Bool := decide (-840 ≤ o ∧ o ≤ 840)
theorem QkI (o : Int) : Ret lb QfJ [.int .i64 o] (.bool (okO o)) := by
 refine .top rfl (.eq (fun n => by rw [Qsy]) (.all fun n => ?_))
 unfold okO
 by_cases h : o ≥ -840
 ·rw [decT h, cond_true]
  congr 2
  exact decide_eq_decide.2 ⟨fun q => ⟨h, q⟩, fun q => q.2⟩
 ·rw [decF h, cond_false, decF (by omega)]
def shE : Option Int → List Sh → Int
 | _, [] => 0
 | b, x :: r => if x.1 < 0 ∨ x.1 ≥ 52596000 then 13 else if (match b with | some y => decide (x.1 - y < 2880) | none => false) = true then 13 else if okO x.2 then shE (some x.1) r else 2
def Qfe (off : Int) (sh : List Sh) : Int := if sh.length > 256 then 4 else if okO off then shE none sh else 2
theorem QsQ (off : Int) (sn : Bool) (sh : List Sh) : Ret lb QbO [.agg [.int .i64 off, .list sn (sh.map shcv)]] (.int .i64 (Qfe off sh)) := by
 unfold Qfe
 by_cases hl : sh.length > 256
 ·refine .top rfl (.all fun n => ?_)
  rw [Qno, if_pos hl]
  exact stT (decT (by rw [List.length_map]; omega)) rfl
 rw [if_neg hl]
 have key := QdQ (enc := shcv) (l := sh) (by omega) (P := fun q t n k => (∀ y, q.getLast? = some y → 0 ≤ y.1 ∧ y.1 < 52596000) → Qfx lb n k off sn (sh.map shcv) (q.length : Int) = some (.int .i64 (shE (q.getLast?.map (·.1)) t))) (by
  refine .all fun n k _ => ?_
  rw [QiC]
  refine stF (decF (by simp)) ?_
  rw [Qqv]
  rfl) (by
  intro q x t hq hlt hat hw hev
  refine Evt.imp2 hev (QkI lb x.2) fun n hn h2 k hk hy => ?_
  have hn := hn k hk
  rw [List.getLast?_append] at hn
  simp only [List.getLast?_singleton, Option.some_or, Option.map_some, Option.some.injEq, forall_eq'] at hn
  rw [QiC]
  refine stT (decT hlt) (stO _ hat (stC rfl (stO _ rfl (stO _ rfl (stO _ rfl ?_)))))
  obtain ⟨b0, hb0⟩ : ∃ b, q.getLast?.map (·.1) = b := ⟨_, rfl⟩
  rw [hb0]
  unfold shE
  by_cases h1 : x.1 < 0
  ·rw [if_pos (.inl h1)]
   exact stT (decT h1) rfl
  refine stF (decF h1) (stO _ rfl ?_)
  by_cases h3 : x.1 ≥ 52596000
  ·rw [if_pos (.inr h3)]
   exact stT (decT h3) rfl
  refine stF (decF h3) ?_
  rw [if_neg (by omega)]
  have hn := hn ⟨by omega, by omega⟩
  rcases QgT q with rfl | ⟨q', y, rfl⟩
  ·have : b0 = none := hb0.symm
   subst this
   rw [if_neg (by simp)]
   refine stF (decF (by simp)) (stO _ h2 (stO _ rfl ?_))
   cases ho : okO x.2 with
   | true =>
    rw [if_pos rfl, hw]
    exact stF rfl hn
   | false =>
    rw [if_neg (by simp)]
    exact stT rfl rfl
  ·rw [List.getLast?_append] at hb0 hy
   simp only [List.getLast?_singleton, Option.some_or, Option.map_some, Option.some.injEq, forall_eq'] at hb0 hy
   subst hb0
   have hll : sh.length = q'.length + (t.length + 2) := by rw [← hq]; simp only [List.length_append, List.length_cons, List.length_nil]; omega
   have hwl : IntKind.wrap .i64 (((q' ++ [y]).length : Int) - 1) = (q'.length : Int) := by
    rw [List.length_append, List.length_singleton, QaF (by omega) (by omega)]
    omega
   have hpre : atL (sh.map shcv) (q'.length : Int) = some (shcv y) := Qa0 (by rw [← hq]; simp)
   refine stT (decT (by rw [List.length_append, List.length_singleton]; omega)) ?_
   rw [hwl]
   refine stO _ hpre (stC rfl (stO _ rfl (stO _ rfl (stO _ rfl ?_))))
   rw [QaF (x := x.1 - y.1) (by omega) (by omega)]
   by_cases h4 : x.1 - y.1 < 2880
   ·rw [if_pos (decT h4)]
    exact stT (decT h4) rfl
   ·rw [if_neg (by simpa using h4)]
    refine stF (decF h4) (stO _ h2 (stO _ rfl ?_))
    cases ho : okO x.2 with
    | true =>
     rw [if_pos rfl, hw]
     exact stF rfl hn
    | false =>
     rw [if_neg (by simp)]
     exact stT rfl rfl) sh [] rfl
 refine .top rfl (Evt.imp2 (QkI lb off) (Evt.diag key) fun n h1 h2 => ?_)
 rw [Qno]
 refine stF (decF (by rw [List.length_map]; omega)) (stO _ h1 (stO _ rfl ?_))
 cases ho : okO off with
 | true =>
  rw [if_pos rfl]
  exact stF rfl (h2 (by simp))
 | false =>
  rw [if_neg (by simp)]
  exact stT rfl rfl
def airE (q : List Ap) (x : Ap) : List Int :=
 (((if QfD x.code && (QfD x.city && Qi5 x.ctry) then [] else [5]) ++ (if q.any (fun y => y.code == x.code) then [6] else [])) ++ (if q.any (fun y => y.city == x.city && !(y.ctry == x.ctry)) then [8] else [])) ++ (if Qfe x.off x.sh != 0 then [Qfe x.off x.sh] else [])
theorem Qs6 (q : List Ap) (x : Ap) : (airE q x).length ≤ 4 := by
 have h : ∀ (c : Bool) (e : Int), (if c then [e] else [] : List Int).length ≤ 1 := fun c e => by cases c <;> simp
 unfold airE
 rw [List.length_append, List.length_append, List.length_append]
 have := Qne (QfD x.code && (QfD x.city && Qi5 x.ctry)) 5
 have := h (q.any (fun y => y.code == x.code)) 6
 have := h (q.any (fun y => y.city == x.city && !(y.ctry == x.ctry))) 8
 have := h (Qfe x.off x.sh != 0) (Qfe x.off x.sh)
 omega
theorem Qxl (n : Nat) (p : Pc) (q t : List Ap) (x : Ap) (h : q ++ x :: t = p.aps) (hl : p.aps.length ≤ 1000) (yN : Bool) (l17 : List (List CV)) (c6 : List CV) (wn wm : CV) :
  ∀ (s r : List Ap) (tw mv : Bool) (k : Nat), r ++ s = q → s.length < k →
   Qcj lb n k p.an (p.aps.map apcv) p.dn (p.dis.map dicv) (q.length : Int) yN l17 c6 (.str x.code) (.str x.city) (.str x.ctry) wn wm tw mv (r.length : Int) =
   QfX lb n p.an (p.aps.map apcv) p.dn (p.dis.map dicv) (q.length : Int) yN l17 c6 (.str x.code) (.str x.city) (.str x.ctry) wn wm (tw || s.any (fun y => y.code == x.code)) (mv || s.any (fun y => y.city == x.city && !(y.ctry == x.ctry))) (q.length : Int)
 | [], r, tw, mv, k, hr, hk => by
  obtain ⟨k, rfl⟩ : ∃ m, k = m + 1 := ⟨k - 1, by simp at hk; omega⟩
  have hr : r = q := by simpa using hr
  subst hr
  rw [Qhs, decF (by omega), cond_false]
  simp
 | y :: s, r, tw, mv, k, hr, hk => by
  obtain ⟨k, rfl⟩ : ∃ m, k = m + 1 := ⟨k - 1, by simp at hk; omega⟩
  have hql : q.length = r.length + (s.length + 1) := by rw [← hr]; simp
  have hpl : p.aps.length = q.length + (t.length + 1) := by rw [← h]; simp
  have hat : atL (p.aps.map apcv) (r.length : Int) = some (apcv y) := Qa0 (by rw [← h, ← hr]; simp)
  have hw : IntKind.wrap .i64 ((r.length : Int) + 1) = ((r ++ [y]).length : Int) := by rw [QaF (by omega) (by omega)]; simp
  have ih := fun tw mv => Qxl n p q t x h hl yN l17 c6 wn wm s (r ++ [y]) tw mv k (by rw [← hr]; simp) (by simp at hk; omega)
  rw [Qhs]
  refine stT (decT (by omega)) ?_
  rw [hw]
  simp only [hat, apcv, QaD, QaG, QaL, Qa1, QaW, Qa6, Qa7, get0, get1, get2, get3, QaK, cond_true, cond_false, List.length_cons, List.length_nil, Nat.zero_add, Nat.reduceAdd, Nat.reduceBEq, beq_self_eq_true, Qaw, Qau, get4, List.any_cons]
  cases tw with
  | true =>
   simp only [cond_true, Bool.true_or]
   cases mv with
   | true =>
    simp only [cond_true, Bool.true_or]
    rw [ih]; simp
   | false =>
    simp only [cond_false, Bool.false_or]
    cases hc : (y.city == x.city) with
    | true =>
     simp only [cond_true, Bool.true_and]
     rw [ih]; simp
    | false =>
     simp only [cond_false, Bool.false_and, Bool.false_or]
     rw [ih]; simp
  | false =>
   simp only [cond_false, Bool.false_or]
   cases mv with
   | true =>
    simp only [cond_true, Bool.true_or]
    rw [ih]; simp
   | false =>
    simp only [cond_false, Bool.false_or]
    cases hc : (y.city == x.city) with
    | true =>
     simp only [cond_true, Bool.true_and]
     rw [ih]
    | false =>
     simp only [cond_false, Bool.false_and, Bool.false_or]
     rw [ih]; simp
theorem Qzm (n : Nat) (ja : Bool) (aair2 : List (List CV)) (jb : Bool) (adis4 : List (List CV)) (b5 : Int) (yZ y0 : Bool) (vZ : Int) (c6 : List CV) (x7 x9 jR wn wm : CV) (E : List Int) (hE : E.length ≤ 1000) (z : Int) (h : C lb n QbO [.agg [wn, wm]] = some (.int .i64 z)) :
  QfQ lb n ja aair2 jb adis4 b5 yZ y0 vZ c6 x7 x9 jR wn wm E.isEmpty (E.map ienc) = some (.list (E ++ if z != 0 then [z] else []).isEmpty ((E ++ if z != 0 then [z] else []).map ienc)) := by
 rw [QnR]
 refine stO _ h (stO _ rfl ?_)
 simp only [Qau, QaK]
 exact QdR (enc := ienc) (z != 0) E z 8 (by decide) (by omega) (fun b l => some (.list b l))
theorem Qzo (n : Nat) (ja : Bool) (aair2 : List (List CV)) (jb : Bool) (adis4 : List (List CV)) (b5 : Int) (yN : Bool) (l17 : List (List CV)) (c6 : List CV) (x7 x9 jR wn wm : CV) (yZ y0 : Bool) (vZ : Int) (E : List Int) (hE : E.length ≤ 10) (hb : yN = E.isEmpty) (hl : l17 = E.map ienc) (z : Int) (h : C lb n QbO [.agg [wn, wm]] = some (.int .i64 z)) :
  QfX lb n ja aair2 jb adis4 b5 yN l17 c6 x7 x9 jR wn wm yZ y0 vZ = some (.list (((E ++ if yZ then [6] else []) ++ if y0 then [8] else []) ++ if z != 0 then [z] else []).isEmpty ((((E ++ if yZ then [6] else []) ++ if y0 then [8] else []) ++ if z != 0 then [z] else []).map ienc)) := by
 subst hb; subst hl
 have o : ∀ (c : Bool) (e : Int), (if c then [e] else [] : List Int).length ≤ 1 := fun c e => by cases c <;> simp
 rw [Qn5]
 refine (QdR (enc := ienc) yZ E 6 8 (by decide) (by omega) _).trans ?_
 have hl1 : (E ++ if yZ then [6] else []).length ≤ 11 := by rw [List.length_append]; have := o yZ 6; omega
 generalize (E ++ if yZ then [6] else []) = E1 at hl1
 rw [Qn6]
 refine (QdR (enc := ienc) y0 E1 8 8 (by decide) (by omega) _).trans ?_
 have hl2 : (E1 ++ if y0 then [8] else []).length ≤ 12 := by rw [List.length_append]; have := o y0 8; omega
 generalize (E1 ++ if y0 then [8] else []) = E2 at hl2
 exact Qzm lb (hE := by omega) (h := h) ..
theorem Qp1 (p : Pc) (q t : List Ap) (x : Ap) (h : q ++ x :: t = p.aps) (hl : p.aps.length ≤ 1000) (h1 : x.code.length ≤ 281474976710656) (h2 : x.city.length ≤ 281474976710656) (h3 : x.ctry.length ≤ 281474976710656) :
  Ret lb QaZ [pcv p, .int .i64 (q.length : Int)] (.list (airE q x).isEmpty ((airE q x).map ienc)) := by
 have hat : atL (p.aps.map apcv) (q.length : Int) = some (apcv x) := Qa0 (by rw [← h]; simp)
 have hpl : p.aps.length = q.length + (t.length + 1) := by rw [← h]; simp
 refine .top rfl (Evt.imp2 (Evt.imp2 (Evt.imp2 (QjG lb x.code h1) (QjG lb x.city h2) fun n a b => And.intro a b) (Qqn lb x.ctry h3) fun n a b => And.intro a b) (Evt.and (QsQ lb x.off x.sn x.sh) (Evt.ge (q.length + 1))) fun n hc hz => ?_)
 obtain ⟨⟨a1, a2⟩, a3⟩ := hc
 obtain ⟨hz, hn⟩ := hz
 rw [Qq9]
 refine stO _ hat (stC rfl (stO _ rfl (stO _ rfl (stO _ rfl (stO _ rfl (stO _ rfl (stO _ a1 (stO _ rfl ?_))))))))
 have fin : ∀ (E : List Int), E.length ≤ 10 → QdI lb n p.an (p.aps.map apcv) p.dn (p.dis.map dicv) (q.length : Int) (apcv x) (.str x.code) (.str x.city) (.str x.ctry) (.int .i64 x.off) (.list x.sn (x.sh.map shcv)) E.isEmpty (E.map ienc) =
   some (.list (((E ++ if q.any (fun y => y.code == x.code) then [6] else []) ++ if q.any (fun y => y.city == x.city && !(y.ctry == x.ctry)) then [8] else []) ++ if Qfe x.off x.sh != 0 then [Qfe x.off x.sh] else []).isEmpty
    ((((E ++ if q.any (fun y => y.code == x.code) then [6] else []) ++ if q.any (fun y => y.city == x.city && !(y.ctry == x.ctry)) then [8] else []) ++ if Qfe x.off x.sh != 0 then [Qfe x.off x.sh] else []).map ienc)) := by
  intro E hE
  rw [QnW]
  refine (Qxl lb n p q t x h hl _ _ _ _ _ q [] false false n rfl (by omega)).trans ?_
  rw [Bool.false_or, Bool.false_or]
  exact Qzo lb (hE := hE) (hb := rfl) (hl := rfl) (h := hz) ..
 unfold airE
 cases QfD x.code with
 | false => exact stT rfl (fin [5] (by simp))
 | true =>
  refine stF rfl (stO _ a2 (stO _ rfl ?_))
  cases QfD x.city with
  | false => exact stT rfl (fin [5] (by simp))
  | true =>
   refine stF rfl (stO _ a3 (stO _ rfl ?_))
   cases Qi5 x.ctry with
   | false => exact stT rfl (fin [5] (by simp))
   | true => exact stF rfl (fin [] (by simp))
end Go.Proofs
set_option linter.unusedSimpArgs false
namespace Go.Proofs
open Go.Am
variable (lb : Nat)
def Qh3 (s : Bs) : List Ap → Option Ap
 | [] => none
 | a :: t => if a.city = s then some a else Qh3 s t
def QvH (s : Bs) (l : List Ap) : CV := .tup [.agg (apcv ((Qh3 s l).getD ap0)), .bool (Qh3 s l).isSome]
theorem Qnq (p : Pc) (s : Bs) (hp : p.aps.length ≤ 281474976710656) : Ret lb Qcl [pcv p, .str s] (QvH s p.aps) := by
 refine .top rfl (.eq (fun n => by rw [Qu0]) ?_)
 refine Evt.diag (m := p.aps.length) (QdQ (enc := apcv) (l := p.aps) hp (P := fun q t n k => QhR lb n k p.an (p.aps.map apcv) p.dn (p.dis.map dicv) s (q.length : Int) = some (QvH s t)) ?_ ?_ p.aps [] rfl)
 ·refine .all fun n k => ?_
  rw [Qjg, decF (by simp), cond_false, QqJ]
  rfl
 ·intro q x t hq hlt hat hw hev
  refine hev.mono fun n hn k hk => ?_
  have hn := hn k hk
  rw [Qjg, decT hlt, cond_true]
  simp only [hat, apcv, QaD, QaG, QaL, Qa1, QaW, Qa6, Qa7, get0, get1, get2, get3, QaK, cond_true, cond_false, List.length_cons, List.length_nil, Nat.zero_add, Nat.reduceAdd, Nat.reduceBEq, beq_self_eq_true, Qaw, Qau, get4, hw]
  unfold QvH Qh3
  by_cases h : x.city = s
  ·rw [show (x.city == s) = true by simpa using h, cond_true, if_pos h]
   rfl
  ·rw [show (x.city == s) = false by simpa using h, cond_false, if_neg h]
   exact hn
def miB (m : Int) : Bool := decide (1 ≤ m ∧ m ≤ 20000)
theorem Qrv (d : Di) : Ret lb Qfv [.agg (dicv d)] (.bool (miB d.mi)) := by
 refine .top rfl (.all fun n => ?_)
 rw [dicv, Qsv]
 unfold miB
 by_cases h : d.mi ≥ 1
 ·rw [decT h, cond_true]
  congr 2
  exact decide_eq_decide.2 ⟨fun q => ⟨h, q⟩, fun q => q.2⟩
 ·rw [decF h, cond_false, decF (by omega)]
def Qny (x y : Di) : Bool := (y.fro == x.fro && y.to == x.to) || (y.fro == x.to && y.to == x.fro)
def disE (aps : List Ap) (q : List Di) (x : Di) : List Int :=
 ((if (Qh3 x.fro aps).isSome && (Qh3 x.to aps).isSome then [] else [14]) ++ (if q.any (Qny x) then [6] else [])) ++ (if !miB x.mi || x.fro == x.to then [2] else [])
theorem Quu (aps : List Ap) (q : List Di) (x : Di) : (disE aps q x).length ≤ 3 := by
 have h : ∀ (c : Bool) (e : Int), (if c then [e] else [] : List Int).length ≤ 1 := fun c e => by cases c <;> simp
 unfold disE
 rw [List.length_append, List.length_append]
 have := Qne ((Qh3 x.fro aps).isSome && (Qh3 x.to aps).isSome) 14
 have := h (q.any (Qny x)) 6
 have := h (!miB x.mi || x.fro == x.to) 2
 omega
theorem QzK (n : Nat) (ja : Bool) (aair2 : List (List CV)) (jb : Bool) (adis4 : List (List CV)) (b5 : Int) (yc wC : CV) (vY : Bool) (kK : Int) (c6 : List CV) (x7 x9 jR wS wD w5 wG wK w8 wA yi wi j1 yo jZ wW wH : CV) (E : List Int) (hE : E.length ≤ 1000) (d : Di) (h7 : x7 = .str d.fro) (h9 : x9 = .str d.to) (h10 : jR = .int .i64 d.mi) (h : C lb n Qfv [.agg (dicv d)] = some (.bool (miB d.mi))) :
  Qfq lb n ja aair2 jb adis4 b5 yc wC vY kK c6 x7 x9 jR wS wD w5 wG wK w8 wA yi wi j1 yo jZ wW wH E.isEmpty (E.map ienc) = some (.list (E ++ if !miB d.mi || d.fro == d.to then [2] else []).isEmpty ((E ++ if !miB d.mi || d.fro == d.to then [2] else []).map ienc)) := by
 subst h7; subst h9; subst h10
 rw [Qmy]
 refine stO _ h (stO _ rfl ?_)
 have e : ∀ x y : Option CV, (bif !miB d.mi then x else optO (CV.asS (.str d.fro)) fun nN => optO (CV.asS (.str d.to)) fun nH => bif nN == nH then x else y) = (bif !miB d.mi || d.fro == d.to then x else y) := fun x y => by
  cases miB d.mi <;> rfl
 refine (e _ _).trans ?_
 exact QdR (enc := ienc) (!miB d.mi || d.fro == d.to) E 2 8 (by decide) (by omega) (fun b l => some (.list b l))
theorem QzC (n : Nat) (ja : Bool) (aair2 : List (List CV)) (jb : Bool) (adis4 : List (List CV)) (b5 : Int) (vi : Bool) (l37 : List (List CV)) (yc wC : CV) (c6 : List CV) (x7 x9 jR wS wD w5 wG wK w8 wA yi wi j1 yo jZ wW wH : CV) (vY : Bool) (kK : Int) (E : List Int) (hE : E.length ≤ 100) (hb : vi = E.isEmpty) (hl : l37 = E.map ienc) (d : Di) (h7 : x7 = .str d.fro) (h9 : x9 = .str d.to) (h10 : jR = .int .i64 d.mi) (h : C lb n Qfv [.agg (dicv d)] = some (.bool (miB d.mi))) :
  Qfm lb n ja aair2 jb adis4 b5 vi l37 yc wC c6 x7 x9 jR wS wD w5 wG wK w8 wA yi wi j1 yo jZ wW wH vY kK = some (.list ((E ++ if vY then [6] else []) ++ if !miB d.mi || d.fro == d.to then [2] else []).isEmpty (((E ++ if vY then [6] else []) ++ if !miB d.mi || d.fro == d.to then [2] else []).map ienc)) := by
 subst hb; subst hl
 have o : ∀ (c : Bool) (e : Int), (if c then [e] else [] : List Int).length ≤ 1 := fun c e => by cases c <;> simp
 rw [Qnm]
 refine (QdR (enc := ienc) vY E 6 8 (by decide) (by omega) _).trans ?_
 have hl1 : (E ++ if vY then [6] else []).length ≤ 101 := by rw [List.length_append]; have := o vY 6; omega
 generalize (E ++ if vY then [6] else []) = E1 at hl1
 exact QzK lb (hE := by omega) (d := d) (h7 := h7) (h9 := h9) (h10 := h10) (h := h) ..
theorem QzM (p : Pc) (q t : List Di) (x : Di) (h : q ++ x :: t = p.dis) (hl : p.dis.length ≤ 1000) (n : Nat) (ja : Bool) (aair2 : List (List CV)) (jb : Bool) (adis4 : List (List CV)) (b5 : Int) (vi : Bool) (l37 : List (List CV)) (yc wC : CV) (c6 : List CV) (x7 x9 jR wS wD w5 wG wK w8 wA yi wi j1 yo jZ wW wH : CV) (ha : adis4 = p.dis.map dicv) (hb : b5 = (q.length : Int)) (h7 : x7 = .str x.fro) (h9 : x9 = .str x.to) :
  ∀ (s r : List Di) (tw : Bool) (k : Nat), r ++ s = q → s.length < k →
   QbY lb n k ja aair2 jb adis4 b5 vi l37 yc wC c6 x7 x9 jR wS wD w5 wG wK w8 wA yi wi j1 yo jZ wW wH tw (r.length : Int) = Qfm lb n ja aair2 jb adis4 b5 vi l37 yc wC c6 x7 x9 jR wS wD w5 wG wK w8 wA yi wi j1 yo jZ wW wH (tw || s.any (Qny x)) (q.length : Int) := by
 subst h7; subst h9; subst hb; subst ha
 intro s
 induction s with
 | nil =>
  intro r tw k hr hk
  obtain ⟨k, rfl⟩ : ∃ m, k = m + 1 := ⟨k - 1, by simp at hk; omega⟩
  have hr : r = q := by simpa using hr
  subst hr
  rw [QgX, decF (by omega), cond_false]
  simp
 | cons y s ih =>
  intro r tw k hr hk
  obtain ⟨k, rfl⟩ : ∃ m, k = m + 1 := ⟨k - 1, by simp at hk; omega⟩
  have hql : q.length = r.length + (s.length + 1) := by rw [← hr]; simp
  have hpl : p.dis.length = q.length + (t.length + 1) := by rw [← h]; simp
  have hat : atL (p.dis.map dicv) (r.length : Int) = some (dicv y) := Qa0 (by rw [← h, ← hr]; simp)
  have hw : IntKind.wrap .i64 ((r.length : Int) + 1) = ((r ++ [y]).length : Int) := by rw [QaF (by omega) (by omega)]; simp
  have ih := fun tw => ih (r ++ [y]) tw k (by rw [← hr]; simp) (by simp at hk; omega)
  rw [QgX]
  refine stT (decT (by omega)) ?_
  rw [hw]
  simp only [hat, dicv, QaD, QaG, QaL, Qa1, QaW, Qa6, Qa7, get0, get1, get2, get3, QaK, cond_true, cond_false, List.length_cons, List.length_nil, Nat.zero_add, Nat.reduceAdd, Nat.reduceBEq, beq_self_eq_true, Qaw, Qau, List.any_cons]
  unfold Qny at ih ⊢
  cases tw with
  | true =>
   simp only [cond_true, Bool.true_or]
   rw [ih]; simp
  | false =>
   simp only [cond_false, Bool.false_or]
   cases (y.fro == x.fro) with
   | true =>
    simp only [cond_true, Bool.true_and]
    cases (y.to == x.to) with
    | true =>
     simp only [cond_true, Bool.true_or]
     rw [ih]; simp
    | false =>
     simp only [cond_false, Bool.false_or]
     cases (y.fro == x.to) with
     | true =>
      simp only [cond_true, Bool.true_and]
      rw [ih]
     | false =>
      simp only [cond_false, Bool.false_and, Bool.false_or]
      rw [ih]; simp
   | false =>
    simp only [cond_false, Bool.false_and, Bool.false_or]
    cases (y.fro == x.to) with
    | true =>
     simp only [cond_true, Bool.true_and]
     rw [ih]
    | false =>
     simp only [cond_false, Bool.false_and, Bool.false_or]
     rw [ih]; simp
theorem Qpe (p : Pc) (q t : List Di) (x : Di) (h : q ++ x :: t = p.dis) (hl : p.dis.length ≤ 1000) (hp : p.aps.length ≤ 281474976710656) :
  Ret lb Qa4 [pcv p, .int .i64 (q.length : Int)] (.list (disE p.aps q x).isEmpty ((disE p.aps q x).map ienc)) := by
 have hat : atL (p.dis.map dicv) (q.length : Int) = some (dicv x) := Qa0 (by rw [← h]; simp)
 have hpl : p.dis.length = q.length + (t.length + 1) := by rw [← h]; simp
 refine .top rfl (Evt.imp2 (Evt.imp2 (Qnq lb p x.fro hp) (Qnq lb p x.to hp) fun n a b => And.intro a b) (Evt.and (Qrv lb x) (Evt.ge (q.length + 1))) fun n hc hz => ?_)
 obtain ⟨a1, a2⟩ := hc
 obtain ⟨hz, hn⟩ := hz
 rw [QpJ]
 refine stO _ hat (stC rfl (stO _ rfl (stO _ rfl (stO _ rfl (stO _ a1 (stO _ rfl (stO _ rfl (stO _ rfl (stO _ rfl (stO _ rfl (stC rfl (stO _ rfl (stO _ rfl (stO _ rfl (stO _ rfl (stO _ rfl (stO _ a2 (stO _ rfl (stO _ rfl (stO _ rfl (stO _ rfl (stO _ rfl (stC rfl (stO _ rfl (stO _ rfl (stO _ rfl (stO _ rfl (stO _ rfl (stO _ rfl ?_)))))))))))))))))))))))))))))
 have fin : ∀ (E : List Int), E.length ≤ 10 → ∀ yc wC wS wD w5 wG wK w8 wA yi wi j1 yo jZ wW wH, Qd5 lb n p.an (p.aps.map apcv) p.dn (p.dis.map dicv) (q.length : Int) yc wC (dicv x) (.str x.fro) (.str x.to) (.int .i64 x.mi) wS wD w5 wG wK w8 wA yi wi j1 yo jZ wW wH E.isEmpty (E.map ienc) =
   some (.list ((E ++ if q.any (Qny x) then [6] else []) ++ if !miB x.mi || x.fro == x.to then [2] else []).isEmpty (((E ++ if q.any (Qny x) then [6] else []) ++ if !miB x.mi || x.fro == x.to then [2] else []).map ienc)) := by
  intro E hE yc wC wS wD w5 wG wK w8 wA yi wi j1 yo jZ wW wH
  rw [Qnh]
  refine (QzM lb p q t x h hl _ _ _ _ _ _ _ _ _ _ _ _ _ _ _ _ _ _ _ _ _ _ _ _ _ _ _ _ rfl rfl rfl rfl q [] false n rfl (by omega)).trans ?_
  rw [Bool.false_or]
  exact QzC lb (hE := by omega) (hb := rfl) (hl := rfl) (d := x) (h7 := rfl) (h9 := rfl) (h10 := rfl) (h := hz) ..
 unfold disE
 cases (Qh3 x.fro p.aps).isSome with
 | false => exact stT rfl (fin [14] (by simp) ..)
 | true =>
  refine stF rfl (stO _ rfl ?_)
  cases (Qh3 x.to p.aps).isSome with
  | false => exact stT rfl (fin [14] (by simp) ..)
  | true => exact stF rfl (fin [] (by simp) ..)
def QeK : Bs := [97, 105, 114, 112, 111, 114, 116, 32]
def Qd4 : Bs := [100, 105, 115, 116, 97, 110, 99, 101, 32]
def Qcs : List Ap → List Ap → List Ft
 | _, [] => []
 | q, x :: t => (airE q x).map (fun e => (e, QeK ++ Lib.itoa (q.length : Int))) ++ Qcs (q ++ [x]) t
def Qct (aps : List Ap) : List Di → List Di → List Ft
 | _, [] => []
 | q, x :: t => (disE aps q x).map (fun e => (e, Qd4 ++ Lib.itoa (q.length : Int))) ++ Qct aps (q ++ [x]) t
def Qi0 (p : Pc) : List Ft := Qcs [] p.aps ++ Qct p.aps [] p.dis
theorem Qqk : ∀ (a r t : List Ap), Qcs r (a ++ t) = Qcs r a ++ Qcs (r ++ a) t
 | [], r, t => by simp [Qcs]
 | x :: a, r, t => by simp only [List.cons_append, Qcs, Qqk a (r ++ [x]) t, List.append_assoc, List.nil_append]
theorem Qla : ∀ (t r : List Ap), (Qcs r t).length ≤ 4 * t.length
 | [], r => by simp [Qcs]
 | x :: t, r => by
  have := Qla t (r ++ [x])
  have := Qs6 r x
  simp only [Qcs, List.length_append, List.length_map, List.length_cons]
  omega
theorem QuJ (q : List Ap) (x : Ap) : Qcs [] (q ++ [x]) = Qcs [] q ++ (airE q x).map (fun e => (e, QeK ++ Lib.itoa (q.length : Int))) := by
 rw [Qqk]; simp [Qcs]
theorem QpQ (aps : List Ap) : ∀ (a r t : List Di), Qct aps r (a ++ t) = Qct aps r a ++ Qct aps (r ++ a) t
 | [], r, t => by simp [Qct]
 | x :: a, r, t => by simp only [List.cons_append, Qct, QpQ aps a (r ++ [x]) t, List.append_assoc, List.nil_append]
theorem Qpp (aps : List Ap) : ∀ (t r : List Di), (Qct aps r t).length ≤ 3 * t.length
 | [], r => by simp [Qct]
 | x :: t, r => by
  have := Qpp aps t (r ++ [x])
  have := Quu aps r x
  simp only [Qct, List.length_append, List.length_map, List.length_cons]
  omega
theorem QuQ (aps : List Ap) (q : List Di) (x : Di) : Qct aps [] (q ++ [x]) = Qct aps [] q ++ (disE aps q x).map (fun e => (e, Qd4 ++ Lib.itoa (q.length : Int))) := by
 rw [QpQ]; simp [Qct]
theorem Qw2 (p : Pc) (yQ : Int) (i : Nat) (hi : i ≤ 1000) (E : List Int) (hE : E.length ≤ 1000) (F : List Ft) (hF : F.length ≤ 10000) (r : CV) :
  ∀ u q, q ++ u = E → Evt fun n => ∀ j k, u.length < j →
   Qez lb n k p.an (p.aps.map apcv) p.dn (p.dis.map dicv) yQ (F ++ E.map fun e => (e, Qd4 ++ Lib.itoa (i : Int))).isEmpty ((F ++ E.map fun e => (e, Qd4 ++ Lib.itoa (i : Int))).map Qbb) (IntKind.wrap .i64 ((i : Int) + 1)) = some r →
   QgV lb n j k p.an (p.aps.map apcv) p.dn (p.dis.map dicv) yQ (i : Int) (.list E.isEmpty (E.map ienc)) (F ++ q.map fun e => (e, Qd4 ++ Lib.itoa (i : Int))).isEmpty ((F ++ q.map fun e => (e, Qd4 ++ Lib.itoa (i : Int))).map Qbb) (q.length : Int) = some r
 | [], q, h => .all fun n j k hj hr => by
  obtain ⟨j, rfl⟩ : ∃ m, j = m + 1 := ⟨j - 1, by simp at hj; omega⟩
  have h : q = E := by simpa using h
  subst h
  rw [Qiy]
  refine stO _ rfl (stF (decF (by simp)) ?_)
  rw [Qqb]
  exact hr
 | e :: u, q, h => by
  have hq : E.length = q.length + (u.length + 1) := by rw [← h]; simp
  have hat : atL (E.map ienc) (q.length : Int) = some (ienc e) := Qa0 (by rw [← h]; simp)
  have hil := Qea (z := (i : Int)) (by omega) (by omega)
  refine (Evt.imp2 (Qw2 p yQ i hi E hE F hF r u (q ++ [e]) (by rw [← h]; simp)) (Qfg lb (i : Int) (by omega) (by omega)) fun n h1 h2 => ?_)
  intro j k hj hr
  obtain ⟨j, rfl⟩ : ∃ m, j = m + 1 := ⟨j - 1, by simp at hj; omega⟩
  have h1 := h1 j k (by simp at hj; omega) hr
  rw [Qiy]
  refine stO _ rfl (stT (decT (by simp; omega)) (stO _ rfl (stO _ hat (stC rfl (stO _ rfl (stO _ h2 (stO _ rfl (stC (decT (by simp; omega)) (stC rfl (stC (Qb4 (by simp; omega) (by omega)) ?_))))))))))
  rw [QaF (by omega) (by omega), show (q.length : Int) + 1 = ((q ++ [e]).length : Int) by simp, QcB (F ++ q.map fun e => (e, Qd4 ++ Lib.itoa (i : Int))) (e, Qd4 ++ Lib.itoa (i : Int))]
  simpa [List.map_append, List.append_assoc, Qbb, Qd4] using h1
theorem Qxe (p : Pc) (i : Nat) (hi : i ≤ 1000) (E : List Int) (hE : E.length ≤ 1000) (F : List Ft) (hF : F.length ≤ 10000) (r : CV) :
  ∀ u q, q ++ u = E → Evt fun n => ∀ j k, u.length < j →
   r06_Check_L1 lb n k p.an (p.aps.map apcv) p.dn (p.dis.map dicv) (F ++ E.map fun e => (e, QeK ++ Lib.itoa (i : Int))).isEmpty ((F ++ E.map fun e => (e, QeK ++ Lib.itoa (i : Int))).map Qbb) (IntKind.wrap .i64 ((i : Int) + 1)) = some r →
   QgY lb n j k p.an (p.aps.map apcv) p.dn (p.dis.map dicv) (i : Int) (.list E.isEmpty (E.map ienc)) (F ++ q.map fun e => (e, QeK ++ Lib.itoa (i : Int))).isEmpty ((F ++ q.map fun e => (e, QeK ++ Lib.itoa (i : Int))).map Qbb) (q.length : Int) = some r
 | [], q, h => .all fun n j k hj hr => by
  obtain ⟨j, rfl⟩ : ∃ m, j = m + 1 := ⟨j - 1, by simp at hj; omega⟩
  have h : q = E := by simpa using h
  subst h
  rw [QiD]
  refine stO _ rfl (stF (decF (by simp)) ?_)
  rw [Qqs]
  exact hr
 | e :: u, q, h => by
  have hq : E.length = q.length + (u.length + 1) := by rw [← h]; simp
  have hat : atL (E.map ienc) (q.length : Int) = some (ienc e) := Qa0 (by rw [← h]; simp)
  have hil := Qea (z := (i : Int)) (by omega) (by omega)
  refine (Evt.imp2 (Qxe p i hi E hE F hF r u (q ++ [e]) (by rw [← h]; simp)) (Qfg lb (i : Int) (by omega) (by omega)) fun n h1 h2 => ?_)
  intro j k hj hr
  obtain ⟨j, rfl⟩ : ∃ m, j = m + 1 := ⟨j - 1, by simp at hj; omega⟩
  have h1 := h1 j k (by simp at hj; omega) hr
  rw [QiD]
  refine stO _ rfl (stT (decT (by simp; omega)) (stO _ rfl (stO _ hat (stC rfl (stO _ rfl (stO _ h2 (stO _ rfl (stC (decT (by simp; omega)) (stC rfl (stC (Qb4 (by simp; omega) (by omega)) ?_))))))))))
  rw [QaF (by omega) (by omega), show (q.length : Int) + 1 = ((q ++ [e]).length : Int) by simp, QcB (F ++ q.map fun e => (e, QeK ++ Lib.itoa (i : Int))) (e, QeK ++ Lib.itoa (i : Int))]
  simpa [List.map_append, List.append_assoc, Qbb, QeK] using h1
theorem QzO (p : Pc) (h1 : p.aps.length ≤ 1000) (h2 : p.dis.length ≤ 1000) (yQ : Int) (F : List Ft) (hF : F.length ≤ 5000) : Evt fun n => Qez lb n n p.an (p.aps.map apcv) p.dn (p.dis.map dicv) yQ F.isEmpty (F.map Qbb) 0 = some (QbV (F ++ Qct p.aps [] p.dis)) := by
 have key := QdQ (enc := dicv) (l := p.dis) (by omega) (P := fun q t n k => Qez lb n k p.an (p.aps.map apcv) p.dn (p.dis.map dicv) yQ (F ++ Qct p.aps [] q).isEmpty ((F ++ Qct p.aps [] q).map Qbb) (q.length : Int) = some (QbV (F ++ Qct p.aps [] p.dis))) (by
  refine .all fun n k => ?_
  rw [QiH]
  refine stF (decF (by simp)) ?_
  rw [Qqj]
  rfl) (by
  intro q x t hq hlt hat hw hev
  have hll : p.dis.length = q.length + (t.length + 1) := by rw [← hq]; simp
  have hFl : (F ++ Qct p.aps [] q).length ≤ 10000 := by rw [List.length_append]; have := Qpp p.aps q []; omega
  have hlE := Quu p.aps q x
  have inner := Qw2 lb p yQ q.length (by omega) (disE p.aps q x) (by omega) (F ++ Qct p.aps [] q) hFl (QbV (F ++ Qct p.aps [] p.dis)) (disE p.aps q x) [] rfl
  refine Evt.imp2 hev (Evt.imp2 (inner.and (Evt.ge 5)) (Qpe lb p q t x hq h2 (by omega)) fun n a b => And.intro a b) fun n hn hc k hk => ?_
  obtain ⟨⟨a1, a2⟩, a3⟩ := hc
  have hn := hn k hk
  rw [QiH]
  refine stT (decT hlt) (stO _ a3 ?_)
  rw [QuQ, ← List.append_assoc] at hn
  have a1 := a1 n k (by omega) (by rw [hw]; exact hn)
  simpa using a1) p.dis [] rfl
 refine (Evt.diag key).mono fun n hn => ?_
 simpa [Qct] using hn
theorem QsP (p : Pc) (h1 : p.aps.length ≤ 1000) (h2 : p.dis.length ≤ 1000) (hs : ∀ a ∈ p.aps, a.code.length ≤ 281474976710656 ∧ a.city.length ≤ 281474976710656 ∧ a.ctry.length ≤ 281474976710656) : Ret lb Qam [pcv p] (QbV (Qi0 p)) := by
 refine .top rfl (.eq (fun n => by rw [Qub]) ?_)
 have key := QdQ (enc := apcv) (l := p.aps) (by omega) (P := fun q t n k => r06_Check_L1 lb n k p.an (p.aps.map apcv) p.dn (p.dis.map dicv) (Qcs [] q).isEmpty ((Qcs [] q).map Qbb) (q.length : Int) = some (QbV (Qi0 p))) (by
  have hF := Qla p.aps []
  refine (QzO lb p h1 h2 (p.aps.length : Int) (Qcs [] p.aps) (by omega)).mono fun n hn k => ?_
  rw [QiK]
  refine stF (decF (by simp)) ?_
  rw [Qqg]
  exact hn) (by
  intro q x t hq hlt hat hw hev
  have hll : p.aps.length = q.length + (t.length + 1) := by rw [← hq]; simp
  have hFl : (Qcs [] q).length ≤ 10000 := by have := Qla q []; omega
  have hlE := Qs6 q x
  obtain ⟨b1, b2, b3⟩ := hs x (by rw [← hq]; simp)
  have inner := Qxe lb p q.length (by omega) (airE q x) (by omega) (Qcs [] q) hFl (QbV (Qi0 p)) (airE q x) [] rfl
  refine Evt.imp2 hev (Evt.imp2 (inner.and (Evt.ge 5)) (Qp1 lb p q t x hq h1 b1 b2 b3) fun n a b => And.intro a b) fun n hn hc k hk => ?_
  obtain ⟨⟨a1, a2⟩, a3⟩ := hc
  have hn := hn k hk
  rw [QiK]
  refine stT (decT hlt) (stO _ a3 ?_)
  rw [QuJ] at hn
  have a1 := a1 n k (by omega) (by rw [hw]; exact hn)
  simpa using a1) p.aps [] rfl
 exact Evt.diag key
theorem QtR {p : Pc} (h : Qi0 p = []) : ∀ a ∈ p.aps, Qfe a.off a.sh = 0 := by
 have h1 : Qcs [] p.aps = [] := (List.append_eq_nil_iff.1 h).1
 have gen : ∀ (t r : List Ap), Qcs r t = [] → ∀ a ∈ t, Qfe a.off a.sh = 0 := by
  intro t
  induction t with
  | nil => intro r _ a ha; cases ha
  | cons x t ih =>
   intro r hr a ha
   simp only [Qcs] at hr
   obtain ⟨h2, h3⟩ := List.append_eq_nil_iff.1 hr
   rcases List.mem_cons.1 ha with rfl | ha
   ·have : airE r a = [] := by simpa using h2
    unfold airE at this
    have := (List.append_eq_nil_iff.1 this).2
    by_cases hz : Qfe a.off a.sh = 0
    ·exact hz
    ·rw [if_pos (bneT hz)] at this
     cases this
   ·exact ih _ h3 a ha
 exact gen _ _ h1
theorem Qrr {p : Pc} (h1 : p.aps.length ≤ 1000) (h : Qi0 p = []) : Qca p := ⟨by omega, fun a ha => by
 have := QtR h a ha
 unfold Qfe at this
 split at this
 ·omega
 ·omega⟩
def Qpt (x : Lg) : Nat := x.fro.length + x.to.length + x.eq.length
end Go.Proofs
set_option linter.unusedSimpArgs false
set_option linter.unusedVariables false
namespace Go.Proofs
open Go.Am
variable (lb : Nat)
def ArgP (p : Pc) : Prop := p.aps.length ≤ 281474976710656 ∧ p.dis.length ≤ 281474976710656 ∧ ∀ a ∈ p.aps, a.code.length ≤ 281474976710656 ∧ a.city.length ≤ 281474976710656 ∧ a.ctry.length ≤ 281474976710656
def ArgF (f : Fl) : Prop := f.car.length ≤ 281474976710656 ∧ f.legs.length ≤ 281474976710656 ∧ ∀ x ∈ f.legs, Qpt x ≤ 1000000000000000
theorem Qy5 (F : List Ft) : decide (((F.map Qbb).length : Int) > 0) = !F.isEmpty := by cases F with
 | nil => rfl
 | cons e F => exact decT (by simp)
theorem QtO {fr days d : Int} (h : onF days d = true) : ∀ {k : Nat}, fr ≤ d → d < fr + k → d ∈ upto fr days k
 | 0, h1, h2 => by omega
 | k + 1, h1, h2 => by
  simp only [upto, List.mem_append]
  by_cases e : d = fr + k
  ·subst e; rw [if_pos h]; exact .inr (by simp)
  ·exact .inl (QtO h h1 (by omega))
theorem Qxm {fr to days d : Int} (h : hasF fr to days d = true) : d ∈ Qar fr to days := by
 unfold hasF at h
 simp only [Bool.and_eq_true, decide_eq_true_eq] at h
 obtain ⟨h0, h1, h2, h3⟩ := h
 unfold Qar
 rw [if_pos h0]
 exact QtO h3 h1 (by omega)
theorem QrN {p : Pc} {l : List Lg} : ∀ {D : List Int}, Qcp p l D = [] → ∀ d ∈ D, ordF p l d = true
 | d :: D, h, e, he => by
  unfold Qcp at h
  split at h
  ·rcases List.mem_cons.1 he with rfl | he
   ·assumption
   ·exact QrN h e he
  ·cases h
theorem QiY {p : Pc} {f : Fl} (h : QaE p f = []) : f.legs.length ≤ 6 ∧ 1 ≤ f.legs.length ∧ Qc7 f = [] ∧ Qa5 p [] f.legs = [] ∧ ∀ d, hasF f.fr f.to f.days d = true → ordF p f.legs d = true := by
 unfold QaE at h
 split at h
 ·rename_i hl
  exfalso
  unfold QfP at h
  rw [if_pos (by rw [Bool.or_eq_true, decide_eq_true_eq, decide_eq_true_eq]; omega)] at h
  simp at h
 ·rename_i hl
  split at h
  ·rename_i h2
   obtain ⟨a, b⟩ := List.append_eq_nil_iff.1 h2
   exact ⟨by omega, by omega, a, b, fun d hd => QrN h d (Qxm hd)⟩
  ·rename_i h2
   exact absurd h h2
instance : DecidableEq Lg := fun a b => by
 cases a; cases b
 simp only [Lg.mk.injEq]
 infer_instance
def lgB (x y : Lg) : Bool := (x.fro == y.fro) && ((x.to == y.to) && ((x.dep == y.dep) && ((x.arr == y.arr) && ((x.eq == y.eq) && true))))
def lgsB : List Lg → List Lg → Bool
 | [], [] => true
 | x :: a, y :: b => lgB x y && lgsB a b
 | _, _ => false
theorem QuD : ∀ {a b : List Lg}, lgsB a b = true → a.length = b.length
 | [], [], _ => rfl
 | x :: a, y :: b, h => by
  simp only [lgsB, Bool.and_eq_true] at h
  simp [QuD h.2]
 | [], y :: b, h => by cases h
 | x :: a, [], h => by cases h
theorem QxX (x : Lg) : lgB x x = true := by simp [lgB]
theorem QrC : ∀ a : List Lg, lgsB a a = true
 | [] => rfl
 | x :: a => by simp [lgsB, QxX, QrC a]
theorem Qy1 (f : Nat → Nat → Int → Option CV) (an bn : Bool) (a b : List Lg) (hl : a.length ≤ 1000) (he : a.length = b.length)
  (step : ∀ n k q x y, (q : Nat) < a.length → a[q]? = some x → b[q]? = some y → f n (k + 1) (q : Int) = (bif !lgB x y then some (.bool false) else f n k (IntKind.wrap .i64 ((q : Int) + 1)))) (stop : ∀ n k, f n (k + 1) (a.length : Int) = some (.bool true)) :
  Evt fun n => f n n 0 = some (.bool (lgsB a b)) := by
 have key : ∀ (t s q r : List Lg), q ++ t = a → r ++ s = b → q.length = r.length → t.length = s.length → ∀ n k, t.length < k → f n k (q.length : Int) = some (.bool (lgsB t s)) := by
  intro t
  induction t with
  | nil =>
   intro s q r hq hr h1 h2 n k hk
   obtain ⟨k, rfl⟩ : ∃ m, k = m + 1 := ⟨k - 1, by simp at hk; omega⟩
   have : q = a := by simpa using hq
   subst this
   have : s = [] := List.length_eq_zero_iff.1 (by simpa using h2.symm)
   subst this
   exact stop n k
  | cons x t ih =>
   intro s q r hq hr h1 h2 n k hk
   obtain ⟨k, rfl⟩ : ∃ m, k = m + 1 := ⟨k - 1, by simp at hk; omega⟩
   cases s with
   | nil => simp at h2
   | cons y s =>
    have hal : a.length = q.length + (t.length + 1) := by rw [← hq]; simp
    rw [step n k q.length x y (by omega) (by rw [← hq]; simp) (by rw [← hr, h1]; simp)]
    rw [QaF (by omega) (by omega), show (q.length : Int) + 1 = ((q ++ [x]).length : Int) by simp]
    rw [ih s (q ++ [x]) (r ++ [y]) (by rw [← hq]; simp) (by rw [← hr]; simp) (by simp [h1]) (by simpa using h2) n k (by simp at hk; omega)]
    rw [show lgsB (x :: t) (y :: s) = (lgB x y && lgsB t s) from rfl]
    cases lgB x y <;> rfl
 exact ⟨a.length + 1, fun n hn => key a b [] [] rfl rfl rfl he n n (by omega)⟩
theorem QqL (an bn : Bool) (a b : List Lg) (hl : a.length ≤ 1000) (hb : b.length ≤ 1000) : Ret lb QaY [.list an (a.map lgcv), .list bn (b.map lgcv)] (.bool (lgsB a b)) := by
 by_cases he : a.length = b.length
 ·refine .top rfl (.eq (fun n => by rw [QfZ, bneF (by simp [he]), cond_false]) (Qy1 (fun n k i => slices_Equal_api_Leg_L1 lb n k an (a.map lgcv) bn (b.map lgcv) i) an bn a b hl he (fun n k q x y hq hx hy => ?_) fun n k => ?_))
  ·have h1 : atL (a.map lgcv) (q : Int) = some (lgcv x) := Qa0 (by simp [hx])
   have h2 : atL (b.map lgcv) (q : Int) = some (lgcv y) := Qa0 (by simp [hy])
   show slices_Equal_api_Leg_L1 lb n (k + 1) an (a.map lgcv) bn (b.map lgcv) (q : Int) = _
   rw [Qev, decT (by simp; omega), cond_true, h1, h2]
   rfl
  ·show slices_Equal_api_Leg_L1 lb n (k + 1) an (a.map lgcv) bn (b.map lgcv) (a.length : Int) = _
   rw [Qev, decF (by simp), cond_false, Qio]
 ·refine .top rfl (.all fun n => ?_)
  rw [QfZ, bneT (by simp; omega), cond_true]
  cases hc : lgsB a b with
  | false => rfl
  | true => exact absurd (QuD hc) he
end Go.Proofs
