/- Chapters 5 and 6 on plain data: what the reference's Check says of places; which flights and places are big. Conditions: as each says. -/
import Derived.Test.YtdcpdknginpohaaGreatDoorKB
import Derived.Test.YtdcpdknginpohaaGreatDoorGc
import Derived.Test.YtdcpdknginpohaaGreatDoorGd
import Derived.Test.YtdcpdknginpohaaGreatDoorW07
set_option linter.unusedSimpArgs false
namespace Go.Proofs
open Go.Am
variable (lb : Nat)
def okO (o : Int) : Bool := decide (-840 ≤ o ∧ o ≤ 840)
theorem Qk1 (o : Int) : Ret lb QfC [.int .i64 o] (.bool (okO o)) := by
 refine .top rfl (.eq (fun n => by rw [Qtq]) (.all fun n => ?_))
 unfold okO
 by_cases h : o ≥ -840
 ·rw [decT h, cond_true]
  congr 2
  exact decide_eq_decide.2 ⟨fun q => ⟨h, q⟩, fun q => q.2⟩
 ·rw [decF h, cond_false, decF (by omega)]
def shE : Option Int → List Sh → Int
 | _, [] => 0
 | b, x :: r => if x.1 < 0 ∨ x.1 ≥ 52596000 then 13 else if (match b with | some y => decide (x.1 - y < 2880) | none => false) = true then 13 else if okO x.2 then shE (some x.1) r else 2
def Qft (off : Int) (sh : List Sh) : Int := if sh.length > 256 then 4 else if okO off then shE none sh else 2
theorem Qs1 (off : Int) (sn : Bool) (sh : List Sh) : Ret lb QbU [.agg [.int .i64 off, .list sn (sh.map shcv)]] (.int .i64 (Qft off sh)) := by
 unfold Qft
 by_cases hl : sh.length > 256
 ·refine .top rfl (.all fun n => ?_)
  rw [QmY, if_pos hl]
  exact stT (decT (by rw [List.length_map]; omega)) rfl
 rw [if_neg hl]
 have key := QdF (enc := shcv) (l := sh) (by omega) (P := fun q t n k => (∀ y, q.getLast? = some y → 0 ≤ y.1 ∧ y.1 < 52596000) → QfL lb n k off sn (sh.map shcv) (q.length : Int) = some (.int .i64 (shE (q.getLast?.map (·.1)) t))) (by
  refine .all fun n k _ => ?_
  rw [QiI]
  refine stF (decF (by simp)) ?_
  rw [Qqx]
  rfl) (by
  intro q x t hq hlt hat hw hev
  refine Evt.imp2 hev (Qk1 lb x.2) fun n hn h2 k hk hy => ?_
  have hn := hn k hk
  rw [List.getLast?_append] at hn
  simp only [List.getLast?_singleton, Option.some_or, Option.map_some, Option.some.injEq, forall_eq'] at hn
  rw [QiI]
  refine stT (decT hlt) (stO _ hat (stC rfl (stO _ rfl (stO _ rfl (stO _ rfl ?_)))))
  obtain ⟨b0, hb0⟩ : ∃ b, q.getLast?.map (·.1) = b := ⟨_, rfl⟩
  rw [hb0]
  unfold shE
  by_cases h1 : x.1 < 0
  ·rw [if_pos (.inl h1)]
   exact stT (decT h1) rfl
  refine stF (decF h1) (stO _ rfl ?_)
  by_cases h3 : x.1 ≥ 52596000
  ·rw [if_pos (.inr h3)]
   exact stT (decT h3) rfl
  refine stF (decF h3) ?_
  rw [if_neg (by omega)]
  have hn := hn ⟨by omega, by omega⟩
  rcases Qhc q with rfl | ⟨q', y, rfl⟩
  ·have : b0 = none := hb0.symm
   subst this
   rw [if_neg (by simp)]
   refine stF (decF (by simp)) (stO _ h2 (stO _ rfl ?_))
   cases ho : okO x.2 with
   | true =>
    rw [if_pos rfl, hw]
    exact stF rfl hn
   | false =>
    rw [if_neg (by simp)]
    exact stT rfl rfl
  ·rw [List.getLast?_append] at hb0 hy
   simp only [List.getLast?_singleton, Option.some_or, Option.map_some, Option.some.injEq, forall_eq'] at hb0 hy
   subst hb0
   have hll : sh.length = q'.length + (t.length + 2) := by rw [← hq]; simp only [List.length_append, List.length_cons, List.length_nil]; omega
   have hwl : IntKind.wrap .i64 (((q' ++ [y]).length : Int) - 1) = (q'.length : Int) := by
    rw [List.length_append, List.length_singleton, Qaz (by omega) (by omega)]
    omega
   have hpre : atL (sh.map shcv) (q'.length : Int) = some (shcv y) := QaG (by rw [← hq]; simp)
   refine stT (decT (by rw [List.length_append, List.length_singleton]; omega)) ?_
   rw [hwl]
   refine stO _ hpre (stC rfl (stO _ rfl (stO _ rfl (stO _ rfl ?_))))
   rw [Qaz (x := x.1 - y.1) (by omega) (by omega)]
   by_cases h4 : x.1 - y.1 < 2880
   ·rw [if_pos (decT h4)]
    exact stT (decT h4) rfl
   ·rw [if_neg (by simpa using h4)]
    refine stF (decF h4) (stO _ h2 (stO _ rfl ?_))
    cases ho : okO x.2 with
    | true =>
     rw [if_pos rfl, hw]
     exact stF rfl hn
    | false =>
     rw [if_neg (by simp)]
     exact stT rfl rfl) sh [] rfl
 refine .top rfl (Evt.imp2 (Qk1 lb off) (Evt.diag key) fun n h1 h2 => ?_)
 rw [QmY]
 refine stF (decF (by rw [List.length_map]; omega)) (stO _ h1 (stO _ rfl ?_))
 cases ho : okO off with
 | true =>
  rw [if_pos rfl]
  exact stF rfl (h2 (by simp))
 | false =>
  rw [if_neg (by simp)]
  exact stT rfl rfl
def airE (q : List Ap) (x : Ap) : List Int :=
 (((if QfK x.code && (QfK x.city && Qjk x.ctry) then [] else [5]) ++ (if q.any (fun y => y.code == x.code) then [6] else [])) ++ (if q.any (fun y => y.city == x.city && !(y.ctry == x.ctry)) then [8] else [])) ++ (if Qft x.off x.sh != 0 then [Qft x.off x.sh] else [])
theorem Qu3 (q : List Ap) (x : Ap) : (airE q x).length ≤ 4 := by
 have h : ∀ (c : Bool) (e : Int), (if c then [e] else [] : List Int).length ≤ 1 := fun c e => by cases c <;> simp
 unfold airE
 rw [List.length_append, List.length_append, List.length_append]
 have := QmF (QfK x.code && (QfK x.city && Qjk x.ctry)) 5
 have := h (q.any (fun y => y.code == x.code)) 6
 have := h (q.any (fun y => y.city == x.city && !(y.ctry == x.ctry))) 8
 have := h (Qft x.off x.sh != 0) (Qft x.off x.sh)
 omega
theorem QxH (n : Nat) (p : Pc) (q t : List Ap) (x : Ap) (h : q ++ x :: t = p.aps) (hl : p.aps.length ≤ 1000) (yT : Bool) (l17 : List (List CV)) (c6 : List CV) (wI wH : CV) :
  ∀ (s r : List Ap) (tw mv : Bool) (k : Nat), r ++ s = q → s.length < k →
   Qcn lb n k p.an (p.aps.map apcv) p.dn (p.dis.map dicv) (q.length : Int) yT l17 c6 (.str x.code) (.str x.city) (.str x.ctry) wI wH tw mv (r.length : Int) =
   Qf0 lb n p.an (p.aps.map apcv) p.dn (p.dis.map dicv) (q.length : Int) yT l17 c6 (.str x.code) (.str x.city) (.str x.ctry) wI wH (tw || s.any (fun y => y.code == x.code)) (mv || s.any (fun y => y.city == x.city && !(y.ctry == x.ctry))) (q.length : Int)
 | [], r, tw, mv, k, hr, hk => by
  obtain ⟨k, rfl⟩ : ∃ m, k = m + 1 := ⟨k - 1, by simp at hk; omega⟩
  have hr : r = q := by simpa using hr
  subst hr
  rw [Qhn, decF (by omega), cond_false]
  simp
 | y :: s, r, tw, mv, k, hr, hk => by
  obtain ⟨k, rfl⟩ : ∃ m, k = m + 1 := ⟨k - 1, by simp at hk; omega⟩
  have hql : q.length = r.length + (s.length + 1) := by rw [← hr]; simp
  have hpl : p.aps.length = q.length + (t.length + 1) := by rw [← h]; simp
  have hat : atL (p.aps.map apcv) (r.length : Int) = some (apcv y) := QaG (by rw [← h, ← hr]; simp)
  have hw : IntKind.wrap .i64 ((r.length : Int) + 1) = ((r ++ [y]).length : Int) := by rw [Qaz (by omega) (by omega)]; simp
  have ih := fun tw mv => QxH n p q t x h hl yT l17 c6 wI wH s (r ++ [y]) tw mv k (by rw [← hr]; simp) (by simp at hk; omega)
  rw [Qhn]
  refine stT (decT (by omega)) ?_
  rw [hw]
  simp only [hat, apcv, QaF, QaB, QaL, Qa4, Qa0, Qa6, Qa7, get0, get1, get2, get3, QaN, cond_true, cond_false, List.length_cons, List.length_nil, Nat.zero_add, Nat.reduceAdd, Nat.reduceBEq, beq_self_eq_true, Qay, Qav, get4, List.any_cons]
  cases tw with
  | true =>
   simp only [cond_true, Bool.true_or]
   cases mv with
   | true =>
    simp only [cond_true, Bool.true_or]
    rw [ih]; simp
   | false =>
    simp only [cond_false, Bool.false_or]
    cases hc : (y.city == x.city) with
    | true =>
     simp only [cond_true, Bool.true_and]
     rw [ih]; simp
    | false =>
     simp only [cond_false, Bool.false_and, Bool.false_or]
     rw [ih]; simp
  | false =>
   simp only [cond_false, Bool.false_or]
   cases mv with
   | true =>
    simp only [cond_true, Bool.true_or]
    rw [ih]; simp
   | false =>
    simp only [cond_false, Bool.false_or]
    cases hc : (y.city == x.city) with
    | true =>
     simp only [cond_true, Bool.true_and]
     rw [ih]
    | false =>
     simp only [cond_false, Bool.false_and, Bool.false_or]
     rw [ih]; simp
theorem QzR (n : Nat) (ja : Bool) (aair2 : List (List CV)) (jb : Bool) (adis4 : List (List CV)) (b5 : Int) (va vb : Bool) (kC : Int) (c6 : List CV) (x7 x9 we wI wH : CV) (E : List Int) (hE : E.length ≤ 1000) (z : Int) (h : C lb n QbU [.agg [wI, wH]] = some (.int .i64 z)) :
  QfV lb n ja aair2 jb adis4 b5 va vb kC c6 x7 x9 we wI wH E.isEmpty (E.map ienc) = some (.list (E ++ if z != 0 then [z] else []).isEmpty ((E ++ if z != 0 then [z] else []).map ienc)) := by
 rw [Qoq]
 refine stO _ h (stO _ rfl ?_)
 simp only [Qav, QaN]
 exact QdY (enc := ienc) (z != 0) E z 8 (by decide) (by omega) (fun b l => some (.list b l))
theorem QAc (n : Nat) (ja : Bool) (aair2 : List (List CV)) (jb : Bool) (adis4 : List (List CV)) (b5 : Int) (yT : Bool) (l17 : List (List CV)) (c6 : List CV) (x7 x9 we wI wH : CV) (va vb : Bool) (kC : Int) (E : List Int) (hE : E.length ≤ 10) (hb : yT = E.isEmpty) (hl : l17 = E.map ienc) (z : Int) (h : C lb n QbU [.agg [wI, wH]] = some (.int .i64 z)) :
  Qf0 lb n ja aair2 jb adis4 b5 yT l17 c6 x7 x9 we wI wH va vb kC = some (.list (((E ++ if va then [6] else []) ++ if vb then [8] else []) ++ if z != 0 then [z] else []).isEmpty ((((E ++ if va then [6] else []) ++ if vb then [8] else []) ++ if z != 0 then [z] else []).map ienc)) := by
 subst hb; subst hl
 have o : ∀ (c : Bool) (e : Int), (if c then [e] else [] : List Int).length ≤ 1 := fun c e => by cases c <;> simp
 rw [Qoh]
 refine (QdY (enc := ienc) va E 6 8 (by decide) (by omega) _).trans ?_
 have hl1 : (E ++ if va then [6] else []).length ≤ 11 := by rw [List.length_append]; have := o va 6; omega
 generalize (E ++ if va then [6] else []) = E1 at hl1
 rw [Qoa]
 refine (QdY (enc := ienc) vb E1 8 8 (by decide) (by omega) _).trans ?_
 have hl2 : (E1 ++ if vb then [8] else []).length ≤ 12 := by rw [List.length_append]; have := o vb 8; omega
 generalize (E1 ++ if vb then [8] else []) = E2 at hl2
 exact QzR lb (hE := by omega) (h := h) ..
theorem QpW (p : Pc) (q t : List Ap) (x : Ap) (h : q ++ x :: t = p.aps) (hl : p.aps.length ≤ 1000) (h1 : x.code.length ≤ 281474976710656) (h2 : x.city.length ≤ 281474976710656) (h3 : x.ctry.length ≤ 281474976710656) :
  Ret lb QaZ [pcv p, .int .i64 (q.length : Int)] (.list (airE q x).isEmpty ((airE q x).map ienc)) := by
 have hat : atL (p.aps.map apcv) (q.length : Int) = some (apcv x) := QaG (by rw [← h]; simp)
 have hpl : p.aps.length = q.length + (t.length + 1) := by rw [← h]; simp
 refine .top rfl (Evt.imp2 (Evt.imp2 (Evt.imp2 (Qkm lb x.code h1) (Qkm lb x.city h2) fun n a b => And.intro a b) (QpZ lb x.ctry h3) fun n a b => And.intro a b) (Evt.and (Qs1 lb x.off x.sn x.sh) (Evt.ge (q.length + 1))) fun n hc hz => ?_)
 obtain ⟨⟨a1, a2⟩, a3⟩ := hc
 obtain ⟨hz, hn⟩ := hz
 rw [Qr4]
 refine stO _ hat (stC rfl (stO _ rfl (stO _ rfl (stO _ rfl (stO _ rfl (stO _ rfl (stO _ a1 (stO _ rfl ?_))))))))
 have fin : ∀ (E : List Int), E.length ≤ 10 → QdO lb n p.an (p.aps.map apcv) p.dn (p.dis.map dicv) (q.length : Int) (apcv x) (.str x.code) (.str x.city) (.str x.ctry) (.int .i64 x.off) (.list x.sn (x.sh.map shcv)) E.isEmpty (E.map ienc) =
   some (.list (((E ++ if q.any (fun y => y.code == x.code) then [6] else []) ++ if q.any (fun y => y.city == x.city && !(y.ctry == x.ctry)) then [8] else []) ++ if Qft x.off x.sh != 0 then [Qft x.off x.sh] else []).isEmpty
    ((((E ++ if q.any (fun y => y.code == x.code) then [6] else []) ++ if q.any (fun y => y.city == x.city && !(y.ctry == x.ctry)) then [8] else []) ++ if Qft x.off x.sh != 0 then [Qft x.off x.sh] else []).map ienc)) := by
  intro E hE
  rw [Qol]
  refine (QxH lb n p q t x h hl _ _ _ _ _ q [] false false n rfl (by omega)).trans ?_
  rw [Bool.false_or, Bool.false_or]
  exact QAc lb (hE := hE) (hb := rfl) (hl := rfl) (h := hz) ..
 unfold airE
 cases QfK x.code with
 | false => exact stT rfl (fin [5] (by simp))
 | true =>
  refine stF rfl (stO _ a2 (stO _ rfl ?_))
  cases QfK x.city with
  | false => exact stT rfl (fin [5] (by simp))
  | true =>
   refine stF rfl (stO _ a3 (stO _ rfl ?_))
   cases Qjk x.ctry with
   | false => exact stT rfl (fin [5] (by simp))
   | true => exact stF rfl (fin [] (by simp))
end Go.Proofs
set_option linter.unusedSimpArgs false
namespace Go.Proofs
open Go.Am
variable (lb : Nat)
def QhS (s : Bs) : List Ap → Option Ap
 | [] => none
 | a :: t => if a.city = s then some a else QhS s t
def Qwk (s : Bs) (l : List Ap) : CV := .tup [.agg (apcv ((QhS s l).getD ap0)), .bool (QhS s l).isSome]
theorem QnB (p : Pc) (s : Bs) (hp : p.aps.length ≤ 281474976710656) : Ret lb Qcp [pcv p, .str s] (Qwk s p.aps) := by
 refine .top rfl (.eq (fun n => by rw [Qve]) ?_)
 refine Evt.diag (m := p.aps.length) (QdF (enc := apcv) (l := p.aps) hp (P := fun q t n k => QhZ lb n k p.an (p.aps.map apcv) p.dn (p.dis.map dicv) s (q.length : Int) = some (Qwk s t)) ?_ ?_ p.aps [] rfl)
 ·refine .all fun n k => ?_
  rw [Qi9, decF (by simp), cond_false, QrN]
  rfl
 ·intro q x t hq hlt hat hw hev
  refine hev.mono fun n hn k hk => ?_
  have hn := hn k hk
  rw [Qi9, decT hlt, cond_true]
  simp only [hat, apcv, QaF, QaB, QaL, Qa4, Qa0, Qa6, Qa7, get0, get1, get2, get3, QaN, cond_true, cond_false, List.length_cons, List.length_nil, Nat.zero_add, Nat.reduceAdd, Nat.reduceBEq, beq_self_eq_true, Qay, Qav, get4, hw]
  unfold Qwk QhS
  by_cases h : x.city = s
  ·rw [show (x.city == s) = true by simpa using h, cond_true, if_pos h]
   rfl
  ·rw [show (x.city == s) = false by simpa using h, cond_false, if_neg h]
   exact hn
def miB (m : Int) : Bool := decide (1 ≤ m ∧ m ≤ 20000)
theorem Qrg (d : Di) : Ret lb QfB [.agg (dicv d)] (.bool (miB d.mi)) := by
 refine .top rfl (.all fun n => ?_)
 rw [dicv, QsU]
 unfold miB
 by_cases h : d.mi ≥ 1
 ·rw [decT h, cond_true]
  congr 2
  exact decide_eq_decide.2 ⟨fun q => ⟨h, q⟩, fun q => q.2⟩
 ·rw [decF h, cond_false, decF (by omega)]
def QnW (x y : Di) : Bool := (y.fro == x.fro && y.to == x.to) || (y.fro == x.to && y.to == x.fro)
def disE (aps : List Ap) (q : List Di) (x : Di) : List Int :=
 ((if (QhS x.fro aps).isSome && (QhS x.to aps).isSome then [] else [14]) ++ (if q.any (QnW x) then [6] else [])) ++ (if !miB x.mi || x.fro == x.to then [2] else [])
theorem Quu (aps : List Ap) (q : List Di) (x : Di) : (disE aps q x).length ≤ 3 := by
 have h : ∀ (c : Bool) (e : Int), (if c then [e] else [] : List Int).length ≤ 1 := fun c e => by cases c <;> simp
 unfold disE
 rw [List.length_append, List.length_append]
 have := QmF ((QhS x.fro aps).isSome && (QhS x.to aps).isSome) 14
 have := h (q.any (QnW x)) 6
 have := h (!miB x.mi || x.fro == x.to) 2
 omega
theorem QAf (n : Nat) (ja : Bool) (aair2 : List (List CV)) (jb : Bool) (adis4 : List (List CV)) (b5 : Int) (ym wA : CV) (kr : Bool) (ow : Int) (c6 : List CV) (x7 x9 we yk wX yg wn w5 yl wV yq wC wz yp wN ya wY : CV) (E : List Int) (hE : E.length ≤ 1000) (d : Di) (h7 : x7 = .str d.fro) (h9 : x9 = .str d.to) (h10 : we = .int .i64 d.mi) (h : C lb n QfB [.agg (dicv d)] = some (.bool (miB d.mi))) :
  Qfn lb n ja aair2 jb adis4 b5 ym wA kr ow c6 x7 x9 we yk wX yg wn w5 yl wV yq wC wz yp wN ya wY E.isEmpty (E.map ienc) = some (.list (E ++ if !miB d.mi || d.fro == d.to then [2] else []).isEmpty ((E ++ if !miB d.mi || d.fro == d.to then [2] else []).map ienc)) := by
 subst h7; subst h9; subst h10
 rw [Qnw]
 refine stO _ h (stO _ rfl ?_)
 have e : ∀ x y : Option CV, (bif !miB d.mi then x else optO (CV.asS (.str d.fro)) fun pw => optO (CV.asS (.str d.to)) fun pp => bif pw == pp then x else y) = (bif !miB d.mi || d.fro == d.to then x else y) := fun x y => by
  cases miB d.mi <;> rfl
 refine (e _ _).trans ?_
 exact QdY (enc := ienc) (!miB d.mi || d.fro == d.to) E 2 8 (by decide) (by omega) (fun b l => some (.list b l))
theorem Qz1 (n : Nat) (ja : Bool) (aair2 : List (List CV)) (jb : Bool) (adis4 : List (List CV)) (b5 : Int) (vp : Bool) (l37 : List (List CV)) (ym wA : CV) (c6 : List CV) (x7 x9 we yk wX yg wn w5 yl wV yq wC wz yp wN ya wY : CV) (kr : Bool) (ow : Int) (E : List Int) (hE : E.length ≤ 100) (hb : vp = E.isEmpty) (hl : l37 = E.map ienc) (d : Di) (h7 : x7 = .str d.fro) (h9 : x9 = .str d.to) (h10 : we = .int .i64 d.mi) (h : C lb n QfB [.agg (dicv d)] = some (.bool (miB d.mi))) :
  Qfq lb n ja aair2 jb adis4 b5 vp l37 ym wA c6 x7 x9 we yk wX yg wn w5 yl wV yq wC wz yp wN ya wY kr ow = some (.list ((E ++ if kr then [6] else []) ++ if !miB d.mi || d.fro == d.to then [2] else []).isEmpty (((E ++ if kr then [6] else []) ++ if !miB d.mi || d.fro == d.to then [2] else []).map ienc)) := by
 subst hb; subst hl
 have o : ∀ (c : Bool) (e : Int), (if c then [e] else [] : List Int).length ≤ 1 := fun c e => by cases c <;> simp
 rw [QnI]
 refine (QdY (enc := ienc) kr E 6 8 (by decide) (by omega) _).trans ?_
 have hl1 : (E ++ if kr then [6] else []).length ≤ 101 := by rw [List.length_append]; have := o kr 6; omega
 generalize (E ++ if kr then [6] else []) = E1 at hl1
 exact QAf lb (hE := by omega) (d := d) (h7 := h7) (h9 := h9) (h10 := h10) (h := h) ..
theorem Qz9 (p : Pc) (q t : List Di) (x : Di) (h : q ++ x :: t = p.dis) (hl : p.dis.length ≤ 1000) (n : Nat) (ja : Bool) (aair2 : List (List CV)) (jb : Bool) (adis4 : List (List CV)) (b5 : Int) (vp : Bool) (l37 : List (List CV)) (ym wA : CV) (c6 : List CV) (x7 x9 we yk wX yg wn w5 yl wV yq wC wz yp wN ya wY : CV) (ha : adis4 = p.dis.map dicv) (hb : b5 = (q.length : Int)) (h7 : x7 = .str x.fro) (h9 : x9 = .str x.to) :
  ∀ (s r : List Di) (tw : Bool) (k : Nat), r ++ s = q → s.length < k →
   Qb8 lb n k ja aair2 jb adis4 b5 vp l37 ym wA c6 x7 x9 we yk wX yg wn w5 yl wV yq wC wz yp wN ya wY tw (r.length : Int) = Qfq lb n ja aair2 jb adis4 b5 vp l37 ym wA c6 x7 x9 we yk wX yg wn w5 yl wV yq wC wz yp wN ya wY (tw || s.any (QnW x)) (q.length : Int) := by
 subst h7; subst h9; subst hb; subst ha
 intro s
 induction s with
 | nil =>
  intro r tw k hr hk
  obtain ⟨k, rfl⟩ : ∃ m, k = m + 1 := ⟨k - 1, by simp at hk; omega⟩
  have hr : r = q := by simpa using hr
  subst hr
  rw [Qg6, decF (by omega), cond_false]
  simp
 | cons y s ih =>
  intro r tw k hr hk
  obtain ⟨k, rfl⟩ : ∃ m, k = m + 1 := ⟨k - 1, by simp at hk; omega⟩
  have hql : q.length = r.length + (s.length + 1) := by rw [← hr]; simp
  have hpl : p.dis.length = q.length + (t.length + 1) := by rw [← h]; simp
  have hat : atL (p.dis.map dicv) (r.length : Int) = some (dicv y) := QaG (by rw [← h, ← hr]; simp)
  have hw : IntKind.wrap .i64 ((r.length : Int) + 1) = ((r ++ [y]).length : Int) := by rw [Qaz (by omega) (by omega)]; simp
  have ih := fun tw => ih (r ++ [y]) tw k (by rw [← hr]; simp) (by simp at hk; omega)
  rw [Qg6]
  refine stT (decT (by omega)) ?_
  rw [hw]
  simp only [hat, dicv, QaF, QaB, QaL, Qa4, Qa0, Qa6, Qa7, get0, get1, get2, get3, QaN, cond_true, cond_false, List.length_cons, List.length_nil, Nat.zero_add, Nat.reduceAdd, Nat.reduceBEq, beq_self_eq_true, Qay, Qav, List.any_cons]
  unfold QnW at ih ⊢
  cases tw with
  | true =>
   simp only [cond_true, Bool.true_or]
   rw [ih]; simp
  | false =>
   simp only [cond_false, Bool.false_or]
   cases (y.fro == x.fro) with
   | true =>
    simp only [cond_true, Bool.true_and]
    cases (y.to == x.to) with
    | true =>
     simp only [cond_true, Bool.true_or]
     rw [ih]; simp
    | false =>
     simp only [cond_false, Bool.false_or]
     cases (y.fro == x.to) with
     | true =>
      simp only [cond_true, Bool.true_and]
      rw [ih]
     | false =>
      simp only [cond_false, Bool.false_and, Bool.false_or]
      rw [ih]; simp
   | false =>
    simp only [cond_false, Bool.false_and, Bool.false_or]
    cases (y.fro == x.to) with
    | true =>
     simp only [cond_true, Bool.true_and]
     rw [ih]
    | false =>
     simp only [cond_false, Bool.false_and, Bool.false_or]
     rw [ih]; simp
theorem Qpw (p : Pc) (q t : List Di) (x : Di) (h : q ++ x :: t = p.dis) (hl : p.dis.length ≤ 1000) (hp : p.aps.length ≤ 281474976710656) :
  Ret lb Qa1 [pcv p, .int .i64 (q.length : Int)] (.list (disE p.aps q x).isEmpty ((disE p.aps q x).map ienc)) := by
 have hat : atL (p.dis.map dicv) (q.length : Int) = some (dicv x) := QaG (by rw [← h]; simp)
 have hpl : p.dis.length = q.length + (t.length + 1) := by rw [← h]; simp
 refine .top rfl (Evt.imp2 (Evt.imp2 (QnB lb p x.fro hp) (QnB lb p x.to hp) fun n a b => And.intro a b) (Evt.and (Qrg lb x) (Evt.ge (q.length + 1))) fun n hc hz => ?_)
 obtain ⟨a1, a2⟩ := hc
 obtain ⟨hz, hn⟩ := hz
 rw [Qqy]
 refine stO _ hat (stC rfl (stO _ rfl (stO _ rfl (stO _ rfl (stO _ a1 (stO _ rfl (stO _ rfl (stO _ rfl (stO _ rfl (stO _ rfl (stC rfl (stO _ rfl (stO _ rfl (stO _ rfl (stO _ rfl (stO _ rfl (stO _ a2 (stO _ rfl (stO _ rfl (stO _ rfl (stO _ rfl (stO _ rfl (stC rfl (stO _ rfl (stO _ rfl (stO _ rfl (stO _ rfl (stO _ rfl (stO _ rfl ?_)))))))))))))))))))))))))))))
 have fin : ∀ (E : List Int), E.length ≤ 10 → ∀ ym wA yk wX yg wn w5 yl wV yq wC wz yp wN ya wY, Qeb lb n p.an (p.aps.map apcv) p.dn (p.dis.map dicv) (q.length : Int) ym wA (dicv x) (.str x.fro) (.str x.to) (.int .i64 x.mi) yk wX yg wn w5 yl wV yq wC wz yp wN ya wY E.isEmpty (E.map ienc) =
   some (.list ((E ++ if q.any (QnW x) then [6] else []) ++ if !miB x.mi || x.fro == x.to then [2] else []).isEmpty (((E ++ if q.any (QnW x) then [6] else []) ++ if !miB x.mi || x.fro == x.to then [2] else []).map ienc)) := by
  intro E hE ym wA yk wX yg wn w5 yl wV yq wC wz yp wN ya wY
  rw [QnE]
  refine (Qz9 lb p q t x h hl _ _ _ _ _ _ _ _ _ _ _ _ _ _ _ _ _ _ _ _ _ _ _ _ _ _ _ _ rfl rfl rfl rfl q [] false n rfl (by omega)).trans ?_
  rw [Bool.false_or]
  exact Qz1 lb (hE := by omega) (hb := rfl) (hl := rfl) (d := x) (h7 := rfl) (h9 := rfl) (h10 := rfl) (h := hz) ..
 unfold disE
 cases (QhS x.fro p.aps).isSome with
 | false => exact stT rfl (fin [14] (by simp) ..)
 | true =>
  refine stF rfl (stO _ rfl ?_)
  cases (QhS x.to p.aps).isSome with
  | false => exact stT rfl (fin [14] (by simp) ..)
  | true => exact stF rfl (fin [] (by simp) ..)
def Qe0 : Bs := [97, 105, 114, 112, 111, 114, 116, 32]
def Qd9 : Bs := [100, 105, 115, 116, 97, 110, 99, 101, 32]
def Qcz : List Ap → List Ap → List Ft
 | _, [] => []
 | q, x :: t => (airE q x).map (fun e => (e, Qe0 ++ Lib.itoa (q.length : Int))) ++ Qcz (q ++ [x]) t
def Qcy (aps : List Ap) : List Di → List Di → List Ft
 | _, [] => []
 | q, x :: t => (disE aps q x).map (fun e => (e, Qd9 ++ Lib.itoa (q.length : Int))) ++ Qcy aps (q ++ [x]) t
def Qht (p : Pc) : List Ft := Qcz [] p.aps ++ Qcy p.aps [] p.dis
theorem Qp0 : ∀ (a r t : List Ap), Qcz r (a ++ t) = Qcz r a ++ Qcz (r ++ a) t
 | [], r, t => by simp [Qcz]
 | x :: a, r, t => by simp only [List.cons_append, Qcz, Qp0 a (r ++ [x]) t, List.append_assoc, List.nil_append]
theorem QlA : ∀ (t r : List Ap), (Qcz r t).length ≤ 4 * t.length
 | [], r => by simp [Qcz]
 | x :: t, r => by
  have := QlA t (r ++ [x])
  have := Qu3 r x
  simp only [Qcz, List.length_append, List.length_map, List.length_cons]
  omega
theorem QvA (q : List Ap) (x : Ap) : Qcz [] (q ++ [x]) = Qcz [] q ++ (airE q x).map (fun e => (e, Qe0 ++ Lib.itoa (q.length : Int))) := by
 rw [Qp0]; simp [Qcz]
theorem Qqw (aps : List Ap) : ∀ (a r t : List Di), Qcy aps r (a ++ t) = Qcy aps r a ++ Qcy aps (r ++ a) t
 | [], r, t => by simp [Qcy]
 | x :: a, r, t => by simp only [List.cons_append, Qcy, Qqw aps a (r ++ [x]) t, List.append_assoc, List.nil_append]
theorem QqN (aps : List Ap) : ∀ (t r : List Di), (Qcy aps r t).length ≤ 3 * t.length
 | [], r => by simp [Qcy]
 | x :: t, r => by
  have := QqN aps t (r ++ [x])
  have := Quu aps r x
  simp only [Qcy, List.length_append, List.length_map, List.length_cons]
  omega
theorem QvE (aps : List Ap) (q : List Di) (x : Di) : Qcy aps [] (q ++ [x]) = Qcy aps [] q ++ (disE aps q x).map (fun e => (e, Qd9 ++ Lib.itoa (q.length : Int))) := by
 rw [Qqw]; simp [Qcy]
theorem QxX (p : Pc) (yZ : Int) (i : Nat) (hi : i ≤ 1000) (E : List Int) (hE : E.length ≤ 1000) (F : List Ft) (hF : F.length ≤ 10000) (r : CV) :
  ∀ u q, q ++ u = E → Evt fun n => ∀ j k, u.length < j →
   QeE lb n k p.an (p.aps.map apcv) p.dn (p.dis.map dicv) yZ (F ++ E.map fun e => (e, Qd9 ++ Lib.itoa (i : Int))).isEmpty ((F ++ E.map fun e => (e, Qd9 ++ Lib.itoa (i : Int))).map Qba) (IntKind.wrap .i64 ((i : Int) + 1)) = some r →
   QgN lb n j k p.an (p.aps.map apcv) p.dn (p.dis.map dicv) yZ (i : Int) (.list E.isEmpty (E.map ienc)) (F ++ q.map fun e => (e, Qd9 ++ Lib.itoa (i : Int))).isEmpty ((F ++ q.map fun e => (e, Qd9 ++ Lib.itoa (i : Int))).map Qba) (q.length : Int) = some r
 | [], q, h => .all fun n j k hj hr => by
  obtain ⟨j, rfl⟩ : ∃ m, j = m + 1 := ⟨j - 1, by simp at hj; omega⟩
  have h : q = E := by simpa using h
  subst h
  rw [QiA]
  refine stO _ rfl (stF (decF (by simp)) ?_)
  rw [Qqb]
  exact hr
 | e :: u, q, h => by
  have hq : E.length = q.length + (u.length + 1) := by rw [← h]; simp
  have hat : atL (E.map ienc) (q.length : Int) = some (ienc e) := QaG (by rw [← h]; simp)
  have hil := QeO (z := (i : Int)) (by omega) (by omega)
  refine (Evt.imp2 (QxX p yZ i hi E hE F hF r u (q ++ [e]) (by rw [← h]; simp)) (Qfu lb (i : Int) (by omega) (by omega)) fun n h1 h2 => ?_)
  intro j k hj hr
  obtain ⟨j, rfl⟩ : ∃ m, j = m + 1 := ⟨j - 1, by simp at hj; omega⟩
  have h1 := h1 j k (by simp at hj; omega) hr
  rw [QiA]
  refine stO _ rfl (stT (decT (by simp; omega)) (stO _ rfl (stO _ hat (stC rfl (stO _ rfl (stO _ h2 (stO _ rfl (stC (decT (by simp; omega)) (stC rfl (stC (Qa8 (by simp; omega) (by omega)) ?_))))))))))
  rw [Qaz (by omega) (by omega), show (q.length : Int) + 1 = ((q ++ [e]).length : Int) by simp, Qbr (F ++ q.map fun e => (e, Qd9 ++ Lib.itoa (i : Int))) (e, Qd9 ++ Lib.itoa (i : Int))]
  simpa [List.map_append, List.append_assoc, Qba, Qd9] using h1
theorem QxO (p : Pc) (i : Nat) (hi : i ≤ 1000) (E : List Int) (hE : E.length ≤ 1000) (F : List Ft) (hF : F.length ≤ 10000) (r : CV) :
  ∀ u q, q ++ u = E → Evt fun n => ∀ j k, u.length < j →
   QfF lb n k p.an (p.aps.map apcv) p.dn (p.dis.map dicv) (F ++ E.map fun e => (e, Qe0 ++ Lib.itoa (i : Int))).isEmpty ((F ++ E.map fun e => (e, Qe0 ++ Lib.itoa (i : Int))).map Qba) (IntKind.wrap .i64 ((i : Int) + 1)) = some r →
   QgS lb n j k p.an (p.aps.map apcv) p.dn (p.dis.map dicv) (i : Int) (.list E.isEmpty (E.map ienc)) (F ++ q.map fun e => (e, Qe0 ++ Lib.itoa (i : Int))).isEmpty ((F ++ q.map fun e => (e, Qe0 ++ Lib.itoa (i : Int))).map Qba) (q.length : Int) = some r
 | [], q, h => .all fun n j k hj hr => by
  obtain ⟨j, rfl⟩ : ∃ m, j = m + 1 := ⟨j - 1, by simp at hj; omega⟩
  have h : q = E := by simpa using h
  subst h
  rw [QiM]
  refine stO _ rfl (stF (decF (by simp)) ?_)
  rw [QqV]
  exact hr
 | e :: u, q, h => by
  have hq : E.length = q.length + (u.length + 1) := by rw [← h]; simp
  have hat : atL (E.map ienc) (q.length : Int) = some (ienc e) := QaG (by rw [← h]; simp)
  have hil := QeO (z := (i : Int)) (by omega) (by omega)
  refine (Evt.imp2 (QxO p i hi E hE F hF r u (q ++ [e]) (by rw [← h]; simp)) (Qfu lb (i : Int) (by omega) (by omega)) fun n h1 h2 => ?_)
  intro j k hj hr
  obtain ⟨j, rfl⟩ : ∃ m, j = m + 1 := ⟨j - 1, by simp at hj; omega⟩
  have h1 := h1 j k (by simp at hj; omega) hr
  rw [QiM]
  refine stO _ rfl (stT (decT (by simp; omega)) (stO _ rfl (stO _ hat (stC rfl (stO _ rfl (stO _ h2 (stO _ rfl (stC (decT (by simp; omega)) (stC rfl (stC (Qa8 (by simp; omega) (by omega)) ?_))))))))))
  rw [Qaz (by omega) (by omega), show (q.length : Int) + 1 = ((q ++ [e]).length : Int) by simp, Qbr (F ++ q.map fun e => (e, Qe0 ++ Lib.itoa (i : Int))) (e, Qe0 ++ Lib.itoa (i : Int))]
  simpa [List.map_append, List.append_assoc, Qba, Qe0] using h1
theorem QzT (p : Pc) (h1 : p.aps.length ≤ 1000) (h2 : p.dis.length ≤ 1000) (yZ : Int) (F : List Ft) (hF : F.length ≤ 5000) : Evt fun n => QeE lb n n p.an (p.aps.map apcv) p.dn (p.dis.map dicv) yZ F.isEmpty (F.map Qba) 0 = some (Qb9 (F ++ Qcy p.aps [] p.dis)) := by
 have key := QdF (enc := dicv) (l := p.dis) (by omega) (P := fun q t n k => QeE lb n k p.an (p.aps.map apcv) p.dn (p.dis.map dicv) yZ (F ++ Qcy p.aps [] q).isEmpty ((F ++ Qcy p.aps [] q).map Qba) (q.length : Int) = some (Qb9 (F ++ Qcy p.aps [] p.dis))) (by
  refine .all fun n k => ?_
  rw [QiK]
  refine stF (decF (by simp)) ?_
  rw [Qqp]
  rfl) (by
  intro q x t hq hlt hat hw hev
  have hll : p.dis.length = q.length + (t.length + 1) := by rw [← hq]; simp
  have hFl : (F ++ Qcy p.aps [] q).length ≤ 10000 := by rw [List.length_append]; have := QqN p.aps q []; omega
  have hlE := Quu p.aps q x
  have inner := QxX lb p yZ q.length (by omega) (disE p.aps q x) (by omega) (F ++ Qcy p.aps [] q) hFl (Qb9 (F ++ Qcy p.aps [] p.dis)) (disE p.aps q x) [] rfl
  refine Evt.imp2 hev (Evt.imp2 (inner.and (Evt.ge 5)) (Qpw lb p q t x hq h2 (by omega)) fun n a b => And.intro a b) fun n hn hc k hk => ?_
  obtain ⟨⟨a1, a2⟩, a3⟩ := hc
  have hn := hn k hk
  rw [QiK]
  refine stT (decT hlt) (stO _ a3 ?_)
  rw [QvE, ← List.append_assoc] at hn
  have a1 := a1 n k (by omega) (by rw [hw]; exact hn)
  simpa using a1) p.dis [] rfl
 refine (Evt.diag key).mono fun n hn => ?_
 simpa [Qcy] using hn
theorem Qtg (p : Pc) (h1 : p.aps.length ≤ 1000) (h2 : p.dis.length ≤ 1000) (hs : ∀ a ∈ p.aps, a.code.length ≤ 281474976710656 ∧ a.city.length ≤ 281474976710656 ∧ a.ctry.length ≤ 281474976710656) : Ret lb Qal [pcv p] (Qb9 (Qht p)) := by
 refine .top rfl (.eq (fun n => by rw [QtR]) ?_)
 have key := QdF (enc := apcv) (l := p.aps) (by omega) (P := fun q t n k => QfF lb n k p.an (p.aps.map apcv) p.dn (p.dis.map dicv) (Qcz [] q).isEmpty ((Qcz [] q).map Qba) (q.length : Int) = some (Qb9 (Qht p))) (by
  have hF := QlA p.aps []
  refine (QzT lb p h1 h2 (p.aps.length : Int) (Qcz [] p.aps) (by omega)).mono fun n hn k => ?_
  rw [Qiz]
  refine stF (decF (by simp)) ?_
  rw [Qp8]
  exact hn) (by
  intro q x t hq hlt hat hw hev
  have hll : p.aps.length = q.length + (t.length + 1) := by rw [← hq]; simp
  have hFl : (Qcz [] q).length ≤ 10000 := by have := QlA q []; omega
  have hlE := Qu3 q x
  obtain ⟨b1, b2, b3⟩ := hs x (by rw [← hq]; simp)
  have inner := QxO lb p q.length (by omega) (airE q x) (by omega) (Qcz [] q) hFl (Qb9 (Qht p)) (airE q x) [] rfl
  refine Evt.imp2 hev (Evt.imp2 (inner.and (Evt.ge 5)) (QpW lb p q t x hq h1 b1 b2 b3) fun n a b => And.intro a b) fun n hn hc k hk => ?_
  obtain ⟨⟨a1, a2⟩, a3⟩ := hc
  have hn := hn k hk
  rw [Qiz]
  refine stT (decT hlt) (stO _ a3 ?_)
  rw [QvA] at hn
  have a1 := a1 n k (by omega) (by rw [hw]; exact hn)
  simpa using a1) p.aps [] rfl
 exact Evt.diag key
theorem Qt1 {p : Pc} (h : Qht p = []) : ∀ a ∈ p.aps, Qft a.off a.sh = 0 := by
 have h1 : Qcz [] p.aps = [] := (List.append_eq_nil_iff.1 h).1
 have gen : ∀ (t r : List Ap), Qcz r t = [] → ∀ a ∈ t, Qft a.off a.sh = 0 := by
  intro t
  induction t with
  | nil => intro r _ a ha; cases ha
  | cons x t ih =>
   intro r hr a ha
   simp only [Qcz] at hr
   obtain ⟨h2, h3⟩ := List.append_eq_nil_iff.1 hr
   rcases List.mem_cons.1 ha with rfl | ha
   ·have : airE r a = [] := by simpa using h2
    unfold airE at this
    have := (List.append_eq_nil_iff.1 this).2
    by_cases hz : Qft a.off a.sh = 0
    ·exact hz
    ·rw [if_pos (bneT hz)] at this
     cases this
   ·exact ih _ h3 a ha
 exact gen _ _ h1
theorem QkV {p : Pc} (h1 : p.aps.length ≤ 1000) (h : Qht p = []) : Qbw p := ⟨by omega, fun a ha => by
 have := Qt1 h a ha
 unfold Qft at this
 split at this
 ·omega
 ·omega⟩
def Qdg (x : Lg) : Nat := x.fro.length + x.to.length + x.eq.length
def bigB (p : Pc) (f : Fl) : Bool := decide (f.car.length + ((f.legs.take 20).map Qdg).sum > 400) || (decide (f.legs.length > 12) || (decide (p.aps.length > 20) || decide (p.dis.length > 40)))
theorem Qow (p : Pc) (f : Fl) (hc : f.car.length ≤ 281474976710656) (hx : ∀ x ∈ f.legs, Qdg x ≤ 1000000000000000) (hl : f.legs.length ≤ 281474976710656) (hp1 : p.aps.length ≤ 281474976710656) (hp2 : p.dis.length ≤ 281474976710656) : Ret lb Qcw [pcv p, flcv f] (.bool (bigB p f)) := by
 refine .top rfl (.eq (fun n => by rw [QwG]) ?_)
 have fin : ∀ (n : Nat) (i : Int) (q : List Lg), q = f.legs.take 20 → QiQ lb n p.an (p.aps.map apcv) p.dn (p.dis.map dicv) f.car f.num f.fr f.to f.days f.ln (f.legs.map lgcv) ((f.car.length + (q.map Qdg).sum : Nat) : Int) i = some (.bool (bigB p f)) := by
  intro n i q hq
  subst hq
  rw [QsW]
  unfold bigB
  simp only [List.length_map]
  by_cases c1 : f.car.length + ((f.legs.take 20).map Qdg).sum > 400
  ·rw [decT c1, decT (by omega)]; rfl
  rw [decF c1, decF (by omega), cond_false, Bool.false_or]
  by_cases c2 : f.legs.length > 12
  ·rw [decT c2, decT (by omega)]; rfl
  rw [decF c2, decF (by omega), cond_false, Bool.false_or]
  by_cases c3 : p.aps.length > 20
  ·rw [decT c3, decT (by omega)]; rfl
  rw [decF c3, decF (by omega), cond_false, Bool.false_or]
  congr 2
  exact decide_eq_decide.2 (by omega)
 have key := QdF (enc := lgcv) (l := f.legs) (by omega) (P := fun q t n k => q.length ≤ 20 → (q.map Qdg).sum ≤ q.length * 1000000000000000 → r07_Big_L1 lb n k p.an (p.aps.map apcv) p.dn (p.dis.map dicv) f.car f.num f.fr f.to f.days f.ln (f.legs.map lgcv) ((f.car.length + (q.map Qdg).sum : Nat) : Int) (q.length : Int) = some (.bool (bigB p f))) (by
  refine .all fun n k hk _ => ?_
  rw [QjT]
  refine stF (decF (by simp)) ?_
  exact fin n _ _ (by rw [List.take_of_length_le (by omega)])) (by
  intro q x t hq hlt hat hw hev
  refine hev.mono fun n hn k hk hq20 hs => ?_
  have hn := hn k hk
  have hxl := hx x (by rw [← hq]; simp)
  rw [QjT]
  refine stT (decT hlt) ?_
  by_cases c : q.length < 20
  ·refine stT (decT (by omega)) (stO _ hat (stC rfl (stO _ rfl (stO _ rfl (stO _ hat (stC rfl (stO _ rfl (stO _ rfl (stO _ hat (stC rfl (stO _ rfl (stO _ rfl ?_))))))))))))
   have h20 : q.length * 1000000000000000 ≤ 20 * 1000000000000000 := Nat.mul_le_mul (by omega) (Nat.le_refl _)
   unfold Qdg at hxl
   rw [hw, Qaz (x := ((f.car.length + (q.map Qdg).sum : Nat) : Int) + (x.fro.length : Int)) (by omega) (by omega), Qaz (x := ((f.car.length + (q.map Qdg).sum : Nat) : Int) + (x.fro.length : Int) + (x.to.length : Int)) (by omega) (by omega), Qaz (by omega) (by omega)]
   have hn := hn (by simp; omega) (by simp [Qdg]; omega)
   have e : ((f.car.length + ((q ++ [x]).map Qdg).sum : Nat) : Int) = ((f.car.length + (q.map Qdg).sum : Nat) : Int) + (x.fro.length : Int) + (x.to.length : Int) + (x.eq.length : Int) := by
    simp [Qdg]; omega
   rw [← e]
   exact hn
  ·refine stF (decF (by omega)) ?_
   exact fin n _ _ (by rw [← hq, List.take_append, List.take_of_length_le (by omega)]; simp; omega)) f.legs [] rfl
 refine (Evt.diag key).mono fun n hn => ?_
 simpa using hn (by simp) (by simp)
theorem Qxl : ∀ {l : List Nat} {x : Nat}, x ∈ l → x ≤ l.sum
 | y :: l, x, h => by
  rw [List.sum_cons]
  rcases List.mem_cons.1 h with rfl | h
  ·omega
  ·have := Qxl h; omega
theorem QlS {p : Pc} {f : Fl} (h : bigB p f = false) : f.car.length ≤ 400 ∧ (∀ x ∈ f.legs, x.fro.length ≤ 400 ∧ x.to.length ≤ 400 ∧ x.eq.length ≤ 400) ∧ f.legs.length ≤ 12 ∧ p.aps.length ≤ 20 ∧ p.dis.length ≤ 40 := by
 unfold bigB at h
 simp only [Bool.or_eq_false_iff, decide_eq_false_iff_not] at h
 obtain ⟨h1, h2, h3, h4⟩ := h
 rw [List.take_of_length_le (by omega)] at h1
 refine ⟨by omega, fun x hx => ?_, by omega, by omega, by omega⟩
 have : Qdg x ≤ (f.legs.map Qdg).sum := Qxl (List.mem_map_of_mem hx)
 have e : Qdg x = x.fro.length + x.to.length + x.eq.length := rfl
 omega
end Go.Proofs
set_option linter.unusedSimpArgs false
set_option linter.unusedVariables false
namespace Go.Proofs
open Go.Am
variable (lb : Nat)
def ArgP (p : Pc) : Prop := p.aps.length ≤ 281474976710656 ∧ p.dis.length ≤ 281474976710656 ∧ ∀ a ∈ p.aps, a.code.length ≤ 281474976710656 ∧ a.city.length ≤ 281474976710656 ∧ a.ctry.length ≤ 281474976710656
def ArgF (f : Fl) : Prop := f.car.length ≤ 281474976710656 ∧ f.legs.length ≤ 281474976710656 ∧ ∀ x ∈ f.legs, Qdg x ≤ 1000000000000000
theorem QzE (p : Pc) (f : Fl) (hp : ArgP p) (hf : ArgF f) : Ret lb Qcw [pcv p, flcv f] (.bool (bigB p f)) := Qow lb p f hf.1 hf.2.2 hf.2.1 hp.1 hp.2.1
theorem Quc {fr days d : Int} (h : onF days d = true) : ∀ {k : Nat}, fr ≤ d → d < fr + k → d ∈ upto fr days k
 | 0, h1, h2 => by omega
 | k + 1, h1, h2 => by
  simp only [upto, List.mem_append]
  by_cases e : d = fr + k
  ·subst e; rw [if_pos h]; exact .inr (by simp)
  ·exact .inl (Quc h h1 (by omega))
theorem Qxa {fr to days d : Int} (h : hasF fr to days d = true) : d ∈ Qat fr to days := by
 unfold hasF at h
 simp only [Bool.and_eq_true, decide_eq_true_eq] at h
 obtain ⟨h0, h1, h2, h3⟩ := h
 unfold Qat
 rw [if_pos h0]
 exact Quc h3 h1 (by omega)
theorem QsM {p : Pc} {l : List Lg} : ∀ {D : List Int}, QcI p l D = [] → ∀ d ∈ D, ordF p l d = true
 | d :: D, h, e, he => by
  unfold QcI at h
  split at h
  ·rcases List.mem_cons.1 he with rfl | he
   ·assumption
   ·exact QsM h e he
  ·cases h
theorem QqZ {p : Pc} {f : Fl} (h : QaT p f = []) : f.legs.length ≤ 6 ∧ 1 ≤ f.legs.length ∧ QdW f = [] ∧ Qa2 p [] f.legs = [] ∧ ∀ d, hasF f.fr f.to f.days d = true → ordF p f.legs d = true := by
 unfold QaT at h
 split at h
 ·rename_i hl
  exfalso
  unfold QfS at h
  rw [if_pos (by rw [Bool.or_eq_true, decide_eq_true_eq, decide_eq_true_eq]; omega)] at h
  simp at h
 ·rename_i hl
  split at h
  ·rename_i h2
   obtain ⟨a, b⟩ := List.append_eq_nil_iff.1 h2
   exact ⟨by omega, by omega, a, b, fun d hd => QsM h d (Qxa hd)⟩
  ·rename_i h2
   exact absurd h h2
instance : DecidableEq Lg := fun a b => by
 cases a; cases b
 simp only [Lg.mk.injEq]
 infer_instance
def lgB (x y : Lg) : Bool := (x.fro == y.fro) && ((x.to == y.to) && ((x.dep == y.dep) && ((x.arr == y.arr) && ((x.eq == y.eq) && true))))
def lgsB : List Lg → List Lg → Bool
 | [], [] => true
 | x :: a, y :: b => lgB x y && lgsB a b
 | _, _ => false
theorem Quv : ∀ {a b : List Lg}, lgsB a b = true → a.length = b.length
 | [], [], _ => rfl
 | x :: a, y :: b, h => by
  simp only [lgsB, Bool.and_eq_true] at h
  simp [Quv h.2]
 | [], y :: b, h => by cases h
 | x :: a, [], h => by cases h
theorem Qx6 (x : Lg) : lgB x x = true := by simp [lgB]
theorem Qse : ∀ a : List Lg, lgsB a a = true
 | [] => rfl
 | x :: a => by simp [lgsB, Qx6, Qse a]
theorem Qzi (f : Nat → Nat → Int → Option CV) (an bn : Bool) (a b : List Lg) (hl : a.length ≤ 1000) (he : a.length = b.length)
  (step : ∀ n k q x y, (q : Nat) < a.length → a[q]? = some x → b[q]? = some y → f n (k + 1) (q : Int) = (bif !lgB x y then some (.bool false) else f n k (IntKind.wrap .i64 ((q : Int) + 1)))) (stop : ∀ n k, f n (k + 1) (a.length : Int) = some (.bool true)) :
  Evt fun n => f n n 0 = some (.bool (lgsB a b)) := by
 have key : ∀ (t s q r : List Lg), q ++ t = a → r ++ s = b → q.length = r.length → t.length = s.length → ∀ n k, t.length < k → f n k (q.length : Int) = some (.bool (lgsB t s)) := by
  intro t
  induction t with
  | nil =>
   intro s q r hq hr h1 h2 n k hk
   obtain ⟨k, rfl⟩ : ∃ m, k = m + 1 := ⟨k - 1, by simp at hk; omega⟩
   have : q = a := by simpa using hq
   subst this
   have : s = [] := List.length_eq_zero_iff.1 (by simpa using h2.symm)
   subst this
   exact stop n k
  | cons x t ih =>
   intro s q r hq hr h1 h2 n k hk
   obtain ⟨k, rfl⟩ : ∃ m, k = m + 1 := ⟨k - 1, by simp at hk; omega⟩
   cases s with
   | nil => simp at h2
   | cons y s =>
    have hal : a.length = q.length + (t.length + 1) := by rw [← hq]; simp
    rw [step n k q.length x y (by omega) (by rw [← hq]; simp) (by rw [← hr, h1]; simp)]
    rw [Qaz (by omega) (by omega), show (q.length : Int) + 1 = ((q ++ [x]).length : Int) by simp]
    rw [ih s (q ++ [x]) (r ++ [y]) (by rw [← hq]; simp) (by rw [← hr]; simp) (by simp [h1]) (by simpa using h2) n k (by simp at hk; omega)]
    rw [show lgsB (x :: t) (y :: s) = (lgB x y && lgsB t s) from rfl]
    cases lgB x y <;> rfl
 exact ⟨a.length + 1, fun n hn => key a b [] [] rfl rfl rfl he n n (by omega)⟩
theorem Qpf (an bn : Bool) (a b : List Lg) (hl : a.length ≤ 1000) (hb : b.length ≤ 1000) : Ret lb QbC [.list an (a.map lgcv), .list bn (b.map lgcv)] (.bool (lgsB a b)) := by
 by_cases he : a.length = b.length
 ·refine .top rfl (.eq (fun n => by rw [Qj0, bneF (by simp [he]), cond_false]) (Qzi (fun n k i => r07_SameLegs_L1 lb n k an (a.map lgcv) bn (b.map lgcv) i) an bn a b hl he (fun n k q x y hq hx hy => ?_) fun n k => ?_))
  ·have h1 : atL (a.map lgcv) (q : Int) = some (lgcv x) := QaG (by simp [hx])
   have h2 : atL (b.map lgcv) (q : Int) = some (lgcv y) := QaG (by simp [hy])
   show r07_SameLegs_L1 lb n (k + 1) an (a.map lgcv) bn (b.map lgcv) (q : Int) = _
   rw [QgQ, decT (by simp; omega), cond_true, h1, h2]
   rfl
  ·show r07_SameLegs_L1 lb n (k + 1) an (a.map lgcv) bn (b.map lgcv) (a.length : Int) = _
   rw [QgQ, decF (by simp), cond_false, Qm1]
 ·refine .top rfl (.all fun n => ?_)
  rw [Qj0, bneT (by simp; omega), cond_true]
  cases hc : lgsB a b with
  | false => rfl
  | true => exact absurd (Quv hc) he
def Qtw (f g : Fl) : Bool := (f.car == g.car) && ((f.num == g.num) && (((f.fr == g.fr) && ((f.to == g.to) && ((f.days == g.days) && true))) && lgsB f.legs g.legs))
theorem QuY (f g : Fl) (hl : f.legs.length ≤ 1000) (hb : g.legs.length ≤ 1000) : Ret lb QlL [flcv f, flcv g] (.bool (Qtw f g)) := by
 refine .top rfl ((Qpf lb f.ln g.ln f.legs g.legs hl hb).mono fun n hn => ?_)
 rw [Qvi, hn]
 unfold Qtw
 cases (f.car == g.car) <;> cases (f.num == g.num) <;> cases ((f.fr == g.fr) && ((f.to == g.to) && ((f.days == g.days) && true))) <;> rfl
def pc0 : Pc := ⟨true, [], true, []⟩
end Go.Proofs
