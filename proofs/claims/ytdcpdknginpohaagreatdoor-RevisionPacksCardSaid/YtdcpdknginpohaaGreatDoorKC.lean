/- Chapters 5 and 6 on plain data: what the reference's Check says of places; which flights and places are big. Conditions: as each says. -/
import Derived.Test.YtdcpdknginpohaaGreatDoorKB
import Derived.Test.YtdcpdknginpohaaGreatDoorGc
import Derived.Test.YtdcpdknginpohaaGreatDoorGd
import Derived.Test.YtdcpdknginpohaaGreatDoorW07
set_option linter.unusedSimpArgs false
namespace Go.Proofs
open Go.Am
variable (lb : Nat)
def okO (o : Int) : Bool := decide (-840 ≤ o ∧ o ≤ 840)
theorem Qi0 (o : Int) : Ret lb QdW [.int .i64 o] (.bool (okO o)) := by
 refine .top rfl (.eq (fun n => by rw [QpC]) (.all fun n => ?_))
 unfold okO
 by_cases h : o ≥ -840
 ·rw [decT h, cond_true]
  congr 2
  exact decide_eq_decide.2 ⟨fun q => ⟨h, q⟩, fun q => q.2⟩
 ·rw [decF h, cond_false, decF (by omega)]
def shE : Option Int → List Sh → Int
 | _, [] => 0
 | b, x :: r => if x.1 < 0 ∨ x.1 ≥ 52596000 then 13 else if (match b with | some y => decide (x.1 - y < 2880) | none => false) = true then 13 else if okO x.2 then shE (some x.1) r else 2
def QdH (off : Int) (sh : List Sh) : Int := if sh.length > 256 then 4 else if okO off then shE none sh else 2
theorem Qpl (off : Int) (sn : Bool) (sh : List Sh) : Ret lb Qbd [.agg [.int .i64 off, .list sn (sh.map shcv)]] (.int .i64 (QdH off sh)) := by
 unfold QdH
 by_cases hl : sh.length > 256
 ·refine .top rfl (.all fun n => ?_)
  rw [QkL, if_pos hl]
  exact stT (decT (by rw [List.length_map]; omega)) rfl
 rw [if_neg hl]
 have key := Qeg (enc := shcv) (l := sh) (by omega) (P := fun q t n k => (∀ y, q.getLast? = some y → 0 ≤ y.1 ∧ y.1 < 52596000) → QdT lb n k off sn (sh.map shcv) (q.length : Int) = some (.int .i64 (shE (q.getLast?.map (·.1)) t))) (by
  refine .all fun n k _ => ?_
  rw [QgF]
  refine stF (decF (by simp)) ?_
  rw [QmC]
  rfl) (by
  intro q x t hq hlt hat hw hev
  refine Evt.imp2 hev (Qi0 lb x.2) fun n hn h2 k hk hy => ?_
  have hn := hn k hk
  rw [List.getLast?_append] at hn
  simp only [List.getLast?_singleton, Option.some_or, Option.map_some, Option.some.injEq, forall_eq'] at hn
  rw [QgF]
  refine stT (decT hlt) (stO _ hat (stC rfl (stO _ rfl (stO _ rfl (stO _ rfl ?_)))))
  obtain ⟨b0, hb0⟩ : ∃ b, q.getLast?.map (·.1) = b := ⟨_, rfl⟩
  rw [hb0]
  unfold shE
  by_cases h1 : x.1 < 0
  ·rw [if_pos (.inl h1)]
   exact stT (decT h1) rfl
  refine stF (decF h1) (stO _ rfl ?_)
  by_cases h3 : x.1 ≥ 52596000
  ·rw [if_pos (.inr h3)]
   exact stT (decT h3) rfl
  refine stF (decF h3) ?_
  rw [if_neg (by omega)]
  have hn := hn ⟨by omega, by omega⟩
  rcases QgG q with rfl | ⟨q', y, rfl⟩
  ·have : b0 = none := hb0.symm
   subst this
   rw [if_neg (by simp)]
   refine stF (decF (by simp)) (stO _ h2 (stO _ rfl ?_))
   cases ho : okO x.2 with
   | true =>
    rw [if_pos rfl, hw]
    exact stF rfl hn
   | false =>
    rw [if_neg (by simp)]
    exact stT rfl rfl
  ·rw [List.getLast?_append] at hb0 hy
   simp only [List.getLast?_singleton, Option.some_or, Option.map_some, Option.some.injEq, forall_eq'] at hb0 hy
   subst hb0
   have hll : sh.length = q'.length + (t.length + 2) := by rw [← hq]; simp only [List.length_append, List.length_cons, List.length_nil]; omega
   have hwl : IntKind.wrap .i64 (((q' ++ [y]).length : Int) - 1) = (q'.length : Int) := by
    rw [List.length_append, List.length_singleton, Qaz (by omega) (by omega)]
    omega
   have hpre : atL (sh.map shcv) (q'.length : Int) = some (shcv y) := QaI (by rw [← hq]; simp)
   refine stT (decT (by rw [List.length_append, List.length_singleton]; omega)) ?_
   rw [hwl]
   refine stO _ hpre (stC rfl (stO _ rfl (stO _ rfl (stO _ rfl ?_))))
   rw [Qaz (x := x.1 - y.1) (by omega) (by omega)]
   by_cases h4 : x.1 - y.1 < 2880
   ·rw [if_pos (decT h4)]
    exact stT (decT h4) rfl
   ·rw [if_neg (by simpa using h4)]
    refine stF (decF h4) (stO _ h2 (stO _ rfl ?_))
    cases ho : okO x.2 with
    | true =>
     rw [if_pos rfl, hw]
     exact stF rfl hn
    | false =>
     rw [if_neg (by simp)]
     exact stT rfl rfl) sh [] rfl
 refine .top rfl (Evt.imp2 (Qi0 lb off) (Evt.diag key) fun n h1 h2 => ?_)
 rw [QkL]
 refine stF (decF (by rw [List.length_map]; omega)) (stO _ h1 (stO _ rfl ?_))
 cases ho : okO off with
 | true =>
  rw [if_pos rfl]
  exact stF rfl (h2 (by simp))
 | false =>
  rw [if_neg (by simp)]
  exact stT rfl rfl
def airE (q : List Ap) (x : Ap) : List Int :=
 (((if Qd2 x.code && (Qd2 x.city && Qg5 x.ctry) then [] else [5]) ++ (if q.any (fun y => y.code == x.code) then [6] else [])) ++ (if q.any (fun y => y.city == x.city && !(y.ctry == x.ctry)) then [8] else [])) ++ (if QdH x.off x.sh != 0 then [QdH x.off x.sh] else [])
theorem Qqi (q : List Ap) (x : Ap) : (airE q x).length ≤ 4 := by
 have h : ∀ (c : Bool) (e : Int), (if c then [e] else [] : List Int).length ≤ 1 := fun c e => by cases c <;> simp
 unfold airE
 rw [List.length_append, List.length_append, List.length_append]
 have := Qt0 (Qd2 x.code && (Qd2 x.city && Qg5 x.ctry)) 5
 have := h (q.any (fun y => y.code == x.code)) 6
 have := h (q.any (fun y => y.city == x.city && !(y.ctry == x.ctry))) 8
 have := h (QdH x.off x.sh != 0) (QdH x.off x.sh)
 omega
theorem Qtd (n : Nat) (p : Pc) (q t : List Ap) (x : Ap) (h : q ++ x :: t = p.aps) (hl : p.aps.length ≤ 1000) (wk : Bool) (l17 : List (List CV)) (c6 : List CV) (jC jD : CV) :
  ∀ (s r : List Ap) (tw mv : Bool) (k : Nat), r ++ s = q → s.length < k →
   QbH lb n k p.an (p.aps.map apcv) p.dn (p.dis.map dicv) (q.length : Int) wk l17 c6 (.str x.code) (.str x.city) (.str x.ctry) jC jD tw mv (r.length : Int) =
   Qef lb n p.an (p.aps.map apcv) p.dn (p.dis.map dicv) (q.length : Int) wk l17 c6 (.str x.code) (.str x.city) (.str x.ctry) jC jD (tw || s.any (fun y => y.code == x.code)) (mv || s.any (fun y => y.city == x.city && !(y.ctry == x.ctry))) (q.length : Int)
 | [], r, tw, mv, k, hr, hk => by
  obtain ⟨k, rfl⟩ : ∃ m, k = m + 1 := ⟨k - 1, by simp at hk; omega⟩
  have hr : r = q := by simpa using hr
  subst hr
  rw [Qft, decF (by omega), cond_false]
  simp
 | y :: s, r, tw, mv, k, hr, hk => by
  obtain ⟨k, rfl⟩ : ∃ m, k = m + 1 := ⟨k - 1, by simp at hk; omega⟩
  have hql : q.length = r.length + (s.length + 1) := by rw [← hr]; simp
  have hpl : p.aps.length = q.length + (t.length + 1) := by rw [← h]; simp
  have hat : atL (p.aps.map apcv) (r.length : Int) = some (apcv y) := QaI (by rw [← h, ← hr]; simp)
  have hw : IntKind.wrap .i64 ((r.length : Int) + 1) = ((r ++ [y]).length : Int) := by rw [Qaz (by omega) (by omega)]; simp
  have ih := fun tw mv => Qtd n p q t x h hl wk l17 c6 jC jD s (r ++ [y]) tw mv k (by rw [← hr]; simp) (by simp at hk; omega)
  rw [Qft]
  refine stT (decT (by omega)) ?_
  rw [hw]
  simp only [hat, apcv, QaM, QaO, QaH, Qa4, QaV, Qbj, Qbh, get0, get1, get2, get3, QaN, cond_true, cond_false, List.length_cons, List.length_nil, Nat.zero_add, Nat.reduceAdd, Nat.reduceBEq, beq_self_eq_true, QaC, QaB, get4, List.any_cons]
  cases tw with
  | true =>
   simp only [cond_true, Bool.true_or]
   cases mv with
   | true =>
    simp only [cond_true, Bool.true_or]
    rw [ih]; simp
   | false =>
    simp only [cond_false, Bool.false_or]
    cases hc : (y.city == x.city) with
    | true =>
     simp only [cond_true, Bool.true_and]
     rw [ih]; simp
    | false =>
     simp only [cond_false, Bool.false_and, Bool.false_or]
     rw [ih]; simp
  | false =>
   simp only [cond_false, Bool.false_or]
   cases mv with
   | true =>
    simp only [cond_true, Bool.true_or]
    rw [ih]; simp
   | false =>
    simp only [cond_false, Bool.false_or]
    cases hc : (y.city == x.city) with
    | true =>
     simp only [cond_true, Bool.true_and]
     rw [ih]
    | false =>
     simp only [cond_false, Bool.false_and, Bool.false_or]
     rw [ih]; simp
theorem QvZ (n : Nat) (ja : Bool) (aair2 : List (List CV)) (jb : Bool) (adis4 : List (List CV)) (b5 : Int) (ww wi : Bool) (w9 : Int) (c6 : List CV) (x7 x9 jq jC jD : CV) (E : List Int) (hE : E.length ≤ 1000) (z : Int) (h : C lb n Qbd [.agg [jC, jD]] = some (.int .i64 z)) :
  Qd8 lb n ja aair2 jb adis4 b5 ww wi w9 c6 x7 x9 jq jC jD E.isEmpty (E.map ienc) = some (.list (E ++ if z != 0 then [z] else []).isEmpty ((E ++ if z != 0 then [z] else []).map ienc)) := by
 rw [Qlj]
 refine stO _ h (stO _ rfl ?_)
 simp only [QaB, QaN]
 exact Qdz (enc := ienc) (z != 0) E z 8 (by decide) (by omega) (fun b l => some (.list b l))
theorem QvX (n : Nat) (ja : Bool) (aair2 : List (List CV)) (jb : Bool) (adis4 : List (List CV)) (b5 : Int) (wk : Bool) (l17 : List (List CV)) (c6 : List CV) (x7 x9 jq jC jD : CV) (ww wi : Bool) (w9 : Int) (E : List Int) (hE : E.length ≤ 10) (hb : wk = E.isEmpty) (hl : l17 = E.map ienc) (z : Int) (h : C lb n Qbd [.agg [jC, jD]] = some (.int .i64 z)) :
  Qef lb n ja aair2 jb adis4 b5 wk l17 c6 x7 x9 jq jC jD ww wi w9 = some (.list (((E ++ if ww then [6] else []) ++ if wi then [8] else []) ++ if z != 0 then [z] else []).isEmpty ((((E ++ if ww then [6] else []) ++ if wi then [8] else []) ++ if z != 0 then [z] else []).map ienc)) := by
 subst hb; subst hl
 have o : ∀ (c : Bool) (e : Int), (if c then [e] else [] : List Int).length ≤ 1 := fun c e => by cases c <;> simp
 rw [Qlp]
 refine (Qdz (enc := ienc) ww E 6 8 (by decide) (by omega) _).trans ?_
 have hl1 : (E ++ if ww then [6] else []).length ≤ 11 := by rw [List.length_append]; have := o ww 6; omega
 generalize (E ++ if ww then [6] else []) = E1 at hl1
 rw [Qlm]
 refine (Qdz (enc := ienc) wi E1 8 8 (by decide) (by omega) _).trans ?_
 have hl2 : (E1 ++ if wi then [8] else []).length ≤ 12 := by rw [List.length_append]; have := o wi 8; omega
 generalize (E1 ++ if wi then [8] else []) = E2 at hl2
 exact QvZ lb (hE := by omega) (h := h) ..
theorem Qnb (p : Pc) (q t : List Ap) (x : Ap) (h : q ++ x :: t = p.aps) (hl : p.aps.length ≤ 1000) (h1 : x.code.length ≤ 281474976710656) (h2 : x.city.length ≤ 281474976710656) (h3 : x.ctry.length ≤ 281474976710656) :
  Ret lb QaE [pcv p, .int .i64 (q.length : Int)] (.list (airE q x).isEmpty ((airE q x).map ienc)) := by
 have hat : atL (p.aps.map apcv) (q.length : Int) = some (apcv x) := QaI (by rw [← h]; simp)
 have hpl : p.aps.length = q.length + (t.length + 1) := by rw [← h]; simp
 refine .top rfl (Evt.imp2 (Evt.imp2 (Evt.imp2 (QhO lb x.code h1) (QhO lb x.city h2) fun n a b => And.intro a b) (Qnr lb x.ctry h3) fun n a b => And.intro a b) (Evt.and (Qpl lb x.off x.sn x.sh) (Evt.ge (q.length + 1))) fun n hc hz => ?_)
 obtain ⟨⟨a1, a2⟩, a3⟩ := hc
 obtain ⟨hz, hn⟩ := hz
 rw [QnM]
 refine stO _ hat (stC rfl (stO _ rfl (stO _ rfl (stO _ rfl (stO _ rfl (stO _ rfl (stO _ a1 (stO _ rfl ?_))))))))
 have fin : ∀ (E : List Int), E.length ≤ 10 → QcC lb n p.an (p.aps.map apcv) p.dn (p.dis.map dicv) (q.length : Int) (apcv x) (.str x.code) (.str x.city) (.str x.ctry) (.int .i64 x.off) (.list x.sn (x.sh.map shcv)) E.isEmpty (E.map ienc) =
   some (.list (((E ++ if q.any (fun y => y.code == x.code) then [6] else []) ++ if q.any (fun y => y.city == x.city && !(y.ctry == x.ctry)) then [8] else []) ++ if QdH x.off x.sh != 0 then [QdH x.off x.sh] else []).isEmpty
    ((((E ++ if q.any (fun y => y.code == x.code) then [6] else []) ++ if q.any (fun y => y.city == x.city && !(y.ctry == x.ctry)) then [8] else []) ++ if QdH x.off x.sh != 0 then [QdH x.off x.sh] else []).map ienc)) := by
  intro E hE
  rw [Qli]
  refine (Qtd lb n p q t x h hl _ _ _ _ _ q [] false false n rfl (by omega)).trans ?_
  rw [Bool.false_or, Bool.false_or]
  exact QvX lb (hE := hE) (hb := rfl) (hl := rfl) (h := hz) ..
 unfold airE
 cases Qd2 x.code with
 | false => exact stT rfl (fin [5] (by simp))
 | true =>
  refine stF rfl (stO _ a2 (stO _ rfl ?_))
  cases Qd2 x.city with
  | false => exact stT rfl (fin [5] (by simp))
  | true =>
   refine stF rfl (stO _ a3 (stO _ rfl ?_))
   cases Qg5 x.ctry with
   | false => exact stT rfl (fin [5] (by simp))
   | true => exact stF rfl (fin [] (by simp))
end Go.Proofs
set_option linter.unusedSimpArgs false
namespace Go.Proofs
open Go.Am
variable (lb : Nat)
def QfV (s : Bs) : List Ap → Option Ap
 | [] => none
 | a :: t => if a.city = s then some a else QfV s t
def QsF (s : Bs) (l : List Ap) : CV := .tup [.agg (apcv ((QfV s l).getD ap0)), .bool (QfV s l).isSome]
theorem Qkf (p : Pc) (s : Bs) (hp : p.aps.length ≤ 281474976710656) : Ret lb QbE [pcv p, .str s] (QsF s p.aps) := by
 refine .top rfl (.eq (fun n => by rw [Qrn]) ?_)
 refine Evt.diag (m := p.aps.length) (Qeg (enc := apcv) (l := p.aps) hp (P := fun q t n k => QfW lb n k p.an (p.aps.map apcv) p.dn (p.dis.map dicv) s (q.length : Int) = some (QsF s t)) ?_ ?_ p.aps [] rfl)
 ·refine .all fun n k => ?_
  rw [QhA, decF (by simp), cond_false, QnN]
  rfl
 ·intro q x t hq hlt hat hw hev
  refine hev.mono fun n hn k hk => ?_
  have hn := hn k hk
  rw [QhA, decT hlt, cond_true]
  simp only [hat, apcv, QaM, QaO, QaH, Qa4, QaV, Qbj, Qbh, get0, get1, get2, get3, QaN, cond_true, cond_false, List.length_cons, List.length_nil, Nat.zero_add, Nat.reduceAdd, Nat.reduceBEq, beq_self_eq_true, QaC, QaB, get4, hw]
  unfold QsF QfV
  by_cases h : x.city = s
  ·rw [show (x.city == s) = true by simpa using h, cond_true, if_pos h]
   rfl
  ·rw [show (x.city == s) = false by simpa using h, cond_false, if_neg h]
   exact hn
def miB (m : Int) : Bool := decide (1 ≤ m ∧ m ≤ 20000)
theorem QnK (d : Di) : Ret lb Qd5 [.agg (dicv d)] (.bool (miB d.mi)) := by
 refine .top rfl (.all fun n => ?_)
 rw [dicv, Qpk]
 unfold miB
 by_cases h : d.mi ≥ 1
 ·rw [decT h, cond_true]
  congr 2
  exact decide_eq_decide.2 ⟨fun q => ⟨h, q⟩, fun q => q.2⟩
 ·rw [decF h, cond_false, decF (by omega)]
def Qk7 (x y : Di) : Bool := (y.fro == x.fro && y.to == x.to) || (y.fro == x.to && y.to == x.fro)
def disE (aps : List Ap) (q : List Di) (x : Di) : List Int :=
 ((if (QfV x.fro aps).isSome && (QfV x.to aps).isSome then [] else [14]) ++ (if q.any (Qk7 x) then [6] else [])) ++ (if !miB x.mi || x.fro == x.to then [2] else [])
theorem Qqh (aps : List Ap) (q : List Di) (x : Di) : (disE aps q x).length ≤ 3 := by
 have h : ∀ (c : Bool) (e : Int), (if c then [e] else [] : List Int).length ≤ 1 := fun c e => by cases c <;> simp
 unfold disE
 rw [List.length_append, List.length_append]
 have := Qt0 ((QfV x.fro aps).isSome && (QfV x.to aps).isSome) 14
 have := h (q.any (Qk7 x)) 6
 have := h (!miB x.mi || x.fro == x.to) 2
 omega
theorem QvU (n : Nat) (ja : Bool) (aair2 : List (List CV)) (jb : Bool) (adis4 : List (List CV)) (b5 : Int) (jO jN : CV) (w6 : Bool) (yp : Int) (c6 : List CV) (x7 x9 jq jM jS jL jH j2 jP jU jR j3 jG j0 jF jB jJ : CV) (E : List Int) (hE : E.length ≤ 1000) (d : Di) (h7 : x7 = .str d.fro) (h9 : x9 = .str d.to) (h10 : jq = .int .i64 d.mi) (h : C lb n Qd5 [.agg (dicv d)] = some (.bool (miB d.mi))) :
  QdI lb n ja aair2 jb adis4 b5 jO jN w6 yp c6 x7 x9 jq jM jS jL jH j2 jP jU jR j3 jG j0 jF jB jJ E.isEmpty (E.map ienc) = some (.list (E ++ if !miB d.mi || d.fro == d.to then [2] else []).isEmpty ((E ++ if !miB d.mi || d.fro == d.to then [2] else []).map ienc)) := by
 subst h7; subst h9; subst h10
 rw [Qkj]
 refine stO _ h (stO _ rfl ?_)
 have e : ∀ x y : Option CV, (bif !miB d.mi then x else optO (CV.asS (.str d.fro)) fun k5 => optO (CV.asS (.str d.to)) fun ow => bif k5 == ow then x else y) = (bif !miB d.mi || d.fro == d.to then x else y) := fun x y => by
  cases miB d.mi <;> rfl
 refine (e _ _).trans ?_
 exact Qdz (enc := ienc) (!miB d.mi || d.fro == d.to) E 2 8 (by decide) (by omega) (fun b l => some (.list b l))
theorem QvT (n : Nat) (ja : Bool) (aair2 : List (List CV)) (jb : Bool) (adis4 : List (List CV)) (b5 : Int) (wm : Bool) (l37 : List (List CV)) (jO jN : CV) (c6 : List CV) (x7 x9 jq jM jS jL jH j2 jP jU jR j3 jG j0 jF jB jJ : CV) (w6 : Bool) (yp : Int) (E : List Int) (hE : E.length ≤ 100) (hb : wm = E.isEmpty) (hl : l37 = E.map ienc) (d : Di) (h7 : x7 = .str d.fro) (h9 : x9 = .str d.to) (h10 : jq = .int .i64 d.mi) (h : C lb n Qd5 [.agg (dicv d)] = some (.bool (miB d.mi))) :
  QdN lb n ja aair2 jb adis4 b5 wm l37 jO jN c6 x7 x9 jq jM jS jL jH j2 jP jU jR j3 jG j0 jF jB jJ w6 yp = some (.list ((E ++ if w6 then [6] else []) ++ if !miB d.mi || d.fro == d.to then [2] else []).isEmpty (((E ++ if w6 then [6] else []) ++ if !miB d.mi || d.fro == d.to then [2] else []).map ienc)) := by
 subst hb; subst hl
 have o : ∀ (c : Bool) (e : Int), (if c then [e] else [] : List Int).length ≤ 1 := fun c e => by cases c <;> simp
 rw [QkD]
 refine (Qdz (enc := ienc) w6 E 6 8 (by decide) (by omega) _).trans ?_
 have hl1 : (E ++ if w6 then [6] else []).length ≤ 101 := by rw [List.length_append]; have := o w6 6; omega
 generalize (E ++ if w6 then [6] else []) = E1 at hl1
 exact QvU lb (hE := by omega) (d := d) (h7 := h7) (h9 := h9) (h10 := h10) (h := h) ..
theorem Qv5 (p : Pc) (q t : List Di) (x : Di) (h : q ++ x :: t = p.dis) (hl : p.dis.length ≤ 1000) (n : Nat) (ja : Bool) (aair2 : List (List CV)) (jb : Bool) (adis4 : List (List CV)) (b5 : Int) (wm : Bool) (l37 : List (List CV)) (jO jN : CV) (c6 : List CV) (x7 x9 jq jM jS jL jH j2 jP jU jR j3 jG j0 jF jB jJ : CV) (ha : adis4 = p.dis.map dicv) (hb : b5 = (q.length : Int)) (h7 : x7 = .str x.fro) (h9 : x9 = .str x.to) :
  ∀ (s r : List Di) (tw : Bool) (k : Nat), r ++ s = q → s.length < k →
   Qbr lb n k ja aair2 jb adis4 b5 wm l37 jO jN c6 x7 x9 jq jM jS jL jH j2 jP jU jR j3 jG j0 jF jB jJ tw (r.length : Int) = QdN lb n ja aair2 jb adis4 b5 wm l37 jO jN c6 x7 x9 jq jM jS jL jH j2 jP jU jR j3 jG j0 jF jB jJ (tw || s.any (Qk7 x)) (q.length : Int) := by
 subst h7; subst h9; subst hb; subst ha
 intro s
 induction s with
 | nil =>
  intro r tw k hr hk
  obtain ⟨k, rfl⟩ : ∃ m, k = m + 1 := ⟨k - 1, by simp at hk; omega⟩
  have hr : r = q := by simpa using hr
  subst hr
  rw [Qfb, decF (by omega), cond_false]
  simp
 | cons y s ih =>
  intro r tw k hr hk
  obtain ⟨k, rfl⟩ : ∃ m, k = m + 1 := ⟨k - 1, by simp at hk; omega⟩
  have hql : q.length = r.length + (s.length + 1) := by rw [← hr]; simp
  have hpl : p.dis.length = q.length + (t.length + 1) := by rw [← h]; simp
  have hat : atL (p.dis.map dicv) (r.length : Int) = some (dicv y) := QaI (by rw [← h, ← hr]; simp)
  have hw : IntKind.wrap .i64 ((r.length : Int) + 1) = ((r ++ [y]).length : Int) := by rw [Qaz (by omega) (by omega)]; simp
  have ih := fun tw => ih (r ++ [y]) tw k (by rw [← hr]; simp) (by simp at hk; omega)
  rw [Qfb]
  refine stT (decT (by omega)) ?_
  rw [hw]
  simp only [hat, dicv, QaM, QaO, QaH, Qa4, QaV, Qbj, Qbh, get0, get1, get2, get3, QaN, cond_true, cond_false, List.length_cons, List.length_nil, Nat.zero_add, Nat.reduceAdd, Nat.reduceBEq, beq_self_eq_true, QaC, QaB, List.any_cons]
  unfold Qk7 at ih ⊢
  cases tw with
  | true =>
   simp only [cond_true, Bool.true_or]
   rw [ih]; simp
  | false =>
   simp only [cond_false, Bool.false_or]
   cases (y.fro == x.fro) with
   | true =>
    simp only [cond_true, Bool.true_and]
    cases (y.to == x.to) with
    | true =>
     simp only [cond_true, Bool.true_or]
     rw [ih]; simp
    | false =>
     simp only [cond_false, Bool.false_or]
     cases (y.fro == x.to) with
     | true =>
      simp only [cond_true, Bool.true_and]
      rw [ih]
     | false =>
      simp only [cond_false, Bool.false_and, Bool.false_or]
      rw [ih]; simp
   | false =>
    simp only [cond_false, Bool.false_and, Bool.false_or]
    cases (y.fro == x.to) with
    | true =>
     simp only [cond_true, Bool.true_and]
     rw [ih]
    | false =>
     simp only [cond_false, Bool.false_and, Bool.false_or]
     rw [ih]; simp
theorem Qmn (p : Pc) (q t : List Di) (x : Di) (h : q ++ x :: t = p.dis) (hl : p.dis.length ≤ 1000) (hp : p.aps.length ≤ 281474976710656) :
  Ret lb QaJ [pcv p, .int .i64 (q.length : Int)] (.list (disE p.aps q x).isEmpty ((disE p.aps q x).map ienc)) := by
 have hat : atL (p.dis.map dicv) (q.length : Int) = some (dicv x) := QaI (by rw [← h]; simp)
 have hpl : p.dis.length = q.length + (t.length + 1) := by rw [← h]; simp
 refine .top rfl (Evt.imp2 (Evt.imp2 (Qkf lb p x.fro hp) (Qkf lb p x.to hp) fun n a b => And.intro a b) (Evt.and (QnK lb x) (Evt.ge (q.length + 1))) fun n hc hz => ?_)
 obtain ⟨a1, a2⟩ := hc
 obtain ⟨hz, hn⟩ := hz
 rw [QmV]
 refine stO _ hat (stC rfl (stO _ rfl (stO _ rfl (stO _ rfl (stO _ a1 (stO _ rfl (stO _ rfl (stO _ rfl (stO _ rfl (stO _ rfl (stC rfl (stO _ rfl (stO _ rfl (stO _ rfl (stO _ rfl (stO _ rfl (stO _ a2 (stO _ rfl (stO _ rfl (stO _ rfl (stO _ rfl (stO _ rfl (stC rfl (stO _ rfl (stO _ rfl (stO _ rfl (stO _ rfl (stO _ rfl (stO _ rfl ?_)))))))))))))))))))))))))))))
 have fin : ∀ (E : List Int), E.length ≤ 10 → ∀ jO jN jM jS jL jH j2 jP jU jR j3 jG j0 jF jB jJ, QcZ lb n p.an (p.aps.map apcv) p.dn (p.dis.map dicv) (q.length : Int) jO jN (dicv x) (.str x.fro) (.str x.to) (.int .i64 x.mi) jM jS jL jH j2 jP jU jR j3 jG j0 jF jB jJ E.isEmpty (E.map ienc) =
   some (.list ((E ++ if q.any (Qk7 x) then [6] else []) ++ if !miB x.mi || x.fro == x.to then [2] else []).isEmpty (((E ++ if q.any (Qk7 x) then [6] else []) ++ if !miB x.mi || x.fro == x.to then [2] else []).map ienc)) := by
  intro E hE jO jN jM jS jL jH j2 jP jU jR j3 jG j0 jF jB jJ
  rw [QkE]
  refine (Qv5 lb p q t x h hl _ _ _ _ _ _ _ _ _ _ _ _ _ _ _ _ _ _ _ _ _ _ _ _ _ _ _ _ rfl rfl rfl rfl q [] false n rfl (by omega)).trans ?_
  rw [Bool.false_or]
  exact QvT lb (hE := by omega) (hb := rfl) (hl := rfl) (d := x) (h7 := rfl) (h9 := rfl) (h10 := rfl) (h := hz) ..
 unfold disE
 cases (QfV x.fro p.aps).isSome with
 | false => exact stT rfl (fin [14] (by simp) ..)
 | true =>
  refine stF rfl (stO _ rfl ?_)
  cases (QfV x.to p.aps).isSome with
  | false => exact stT rfl (fin [14] (by simp) ..)
  | true => exact stF rfl (fin [] (by simp) ..)
def Qds : Bs := [97, 105, 114, 112, 111, 114, 116, 32]
def QcW : Bs := [100, 105, 115, 116, 97, 110, 99, 101, 32]
def QbM : List Ap → List Ap → List Ft
 | _, [] => []
 | q, x :: t => (airE q x).map (fun e => (e, Qds ++ Lib.itoa (q.length : Int))) ++ QbM (q ++ [x]) t
def QbN (aps : List Ap) : List Di → List Di → List Ft
 | _, [] => []
 | q, x :: t => (disE aps q x).map (fun e => (e, QcW ++ Lib.itoa (q.length : Int))) ++ QbN aps (q ++ [x]) t
def QfG (p : Pc) : List Ft := QbM [] p.aps ++ QbN p.aps [] p.dis
theorem QmK : ∀ (a r t : List Ap), QbM r (a ++ t) = QbM r a ++ QbM (r ++ a) t
 | [], r, t => by simp [QbM]
 | x :: a, r, t => by simp only [List.cons_append, QbM, QmK a (r ++ [x]) t, List.append_assoc, List.nil_append]
theorem Qja : ∀ (t r : List Ap), (QbM r t).length ≤ 4 * t.length
 | [], r => by simp [QbM]
 | x :: t, r => by
  have := Qja t (r ++ [x])
  have := Qqi r x
  simp only [QbM, List.length_append, List.length_map, List.length_cons]
  omega
theorem Qrh (q : List Ap) (x : Ap) : QbM [] (q ++ [x]) = QbM [] q ++ (airE q x).map (fun e => (e, Qds ++ Lib.itoa (q.length : Int))) := by
 rw [QmK]; simp [QbM]
theorem QmS (aps : List Ap) : ∀ (a r t : List Di), QbN aps r (a ++ t) = QbN aps r a ++ QbN aps (r ++ a) t
 | [], r, t => by simp [QbN]
 | x :: a, r, t => by simp only [List.cons_append, QbN, QmS aps a (r ++ [x]) t, List.append_assoc, List.nil_append]
theorem Qna (aps : List Ap) : ∀ (t r : List Di), (QbN aps r t).length ≤ 3 * t.length
 | [], r => by simp [QbN]
 | x :: t, r => by
  have := Qna aps t (r ++ [x])
  have := Qqh aps r x
  simp only [QbN, List.length_append, List.length_map, List.length_cons]
  omega
theorem Qrc (aps : List Ap) (q : List Di) (x : Di) : QbN aps [] (q ++ [x]) = QbN aps [] q ++ (disE aps q x).map (fun e => (e, QcW ++ Lib.itoa (q.length : Int))) := by
 rw [QmS]; simp [QbN]
theorem QtS (p : Pc) (wa : Int) (i : Nat) (hi : i ≤ 1000) (E : List Int) (hE : E.length ≤ 1000) (F : List Ft) (hF : F.length ≤ 10000) (r : CV) :
  ∀ u q, q ++ u = E → Evt fun n => ∀ j k, u.length < j →
   Qdf lb n k p.an (p.aps.map apcv) p.dn (p.dis.map dicv) wa (F ++ E.map fun e => (e, QcW ++ Lib.itoa (i : Int))).isEmpty ((F ++ E.map fun e => (e, QcW ++ Lib.itoa (i : Int))).map Qa0) (IntKind.wrap .i64 ((i : Int) + 1)) = some r →
   Qe9 lb n j k p.an (p.aps.map apcv) p.dn (p.dis.map dicv) wa (i : Int) (.list E.isEmpty (E.map ienc)) (F ++ q.map fun e => (e, QcW ++ Lib.itoa (i : Int))).isEmpty ((F ++ q.map fun e => (e, QcW ++ Lib.itoa (i : Int))).map Qa0) (q.length : Int) = some r
 | [], q, h => .all fun n j k hj hr => by
  obtain ⟨j, rfl⟩ : ∃ m, j = m + 1 := ⟨j - 1, by simp at hj; omega⟩
  have h : q = E := by simpa using h
  subst h
  rw [Qgu]
  refine stO _ rfl (stF (decF (by simp)) ?_)
  rw [Qnu]
  exact hr
 | e :: u, q, h => by
  have hq : E.length = q.length + (u.length + 1) := by rw [← h]; simp
  have hat : atL (E.map ienc) (q.length : Int) = some (ienc e) := QaI (by rw [← h]; simp)
  have hil := QdS (z := (i : Int)) (by omega) (by omega)
  refine (Evt.imp2 (QtS p wa i hi E hE F hF r u (q ++ [e]) (by rw [← h]; simp)) (QdL lb (i : Int) (by omega) (by omega)) fun n h1 h2 => ?_)
  intro j k hj hr
  obtain ⟨j, rfl⟩ : ∃ m, j = m + 1 := ⟨j - 1, by simp at hj; omega⟩
  have h1 := h1 j k (by simp at hj; omega) hr
  rw [Qgu]
  refine stO _ rfl (stT (decT (by simp; omega)) (stO _ rfl (stO _ hat (stC rfl (stO _ rfl (stO _ h2 (stO _ rfl (stC (decT (by simp; omega)) (stC rfl (stC (Qb9 (by simp; omega) (by omega)) ?_))))))))))
  rw [Qaz (by omega) (by omega), show (q.length : Int) + 1 = ((q ++ [e]).length : Int) by simp, QcF (F ++ q.map fun e => (e, QcW ++ Lib.itoa (i : Int))) (e, QcW ++ Lib.itoa (i : Int))]
  simpa [List.map_append, List.append_assoc, Qa0, QcW] using h1
theorem Qtm (p : Pc) (i : Nat) (hi : i ≤ 1000) (E : List Int) (hE : E.length ≤ 1000) (F : List Ft) (hF : F.length ≤ 10000) (r : CV) :
  ∀ u q, q ++ u = E → Evt fun n => ∀ j k, u.length < j →
   Qd3 lb n k p.an (p.aps.map apcv) p.dn (p.dis.map dicv) (F ++ E.map fun e => (e, Qds ++ Lib.itoa (i : Int))).isEmpty ((F ++ E.map fun e => (e, Qds ++ Lib.itoa (i : Int))).map Qa0) (IntKind.wrap .i64 ((i : Int) + 1)) = some r →
   Qe8 lb n j k p.an (p.aps.map apcv) p.dn (p.dis.map dicv) (i : Int) (.list E.isEmpty (E.map ienc)) (F ++ q.map fun e => (e, Qds ++ Lib.itoa (i : Int))).isEmpty ((F ++ q.map fun e => (e, Qds ++ Lib.itoa (i : Int))).map Qa0) (q.length : Int) = some r
 | [], q, h => .all fun n j k hj hr => by
  obtain ⟨j, rfl⟩ : ∃ m, j = m + 1 := ⟨j - 1, by simp at hj; omega⟩
  have h : q = E := by simpa using h
  subst h
  rw [Qgz]
  refine stO _ rfl (stF (decF (by simp)) ?_)
  rw [Qnc]
  exact hr
 | e :: u, q, h => by
  have hq : E.length = q.length + (u.length + 1) := by rw [← h]; simp
  have hat : atL (E.map ienc) (q.length : Int) = some (ienc e) := QaI (by rw [← h]; simp)
  have hil := QdS (z := (i : Int)) (by omega) (by omega)
  refine (Evt.imp2 (Qtm p i hi E hE F hF r u (q ++ [e]) (by rw [← h]; simp)) (QdL lb (i : Int) (by omega) (by omega)) fun n h1 h2 => ?_)
  intro j k hj hr
  obtain ⟨j, rfl⟩ : ∃ m, j = m + 1 := ⟨j - 1, by simp at hj; omega⟩
  have h1 := h1 j k (by simp at hj; omega) hr
  rw [Qgz]
  refine stO _ rfl (stT (decT (by simp; omega)) (stO _ rfl (stO _ hat (stC rfl (stO _ rfl (stO _ h2 (stO _ rfl (stC (decT (by simp; omega)) (stC rfl (stC (Qb9 (by simp; omega) (by omega)) ?_))))))))))
  rw [Qaz (by omega) (by omega), show (q.length : Int) + 1 = ((q ++ [e]).length : Int) by simp, QcF (F ++ q.map fun e => (e, Qds ++ Lib.itoa (i : Int))) (e, Qds ++ Lib.itoa (i : Int))]
  simpa [List.map_append, List.append_assoc, Qa0, Qds] using h1
theorem QvS (p : Pc) (h1 : p.aps.length ≤ 1000) (h2 : p.dis.length ≤ 1000) (wa : Int) (F : List Ft) (hF : F.length ≤ 5000) : Evt fun n => Qdf lb n n p.an (p.aps.map apcv) p.dn (p.dis.map dicv) wa F.isEmpty (F.map Qa0) 0 = some (QcN (F ++ QbN p.aps [] p.dis)) := by
 have key := Qeg (enc := dicv) (l := p.dis) (by omega) (P := fun q t n k => Qdf lb n k p.an (p.aps.map apcv) p.dn (p.dis.map dicv) wa (F ++ QbN p.aps [] q).isEmpty ((F ++ QbN p.aps [] q).map Qa0) (q.length : Int) = some (QcN (F ++ QbN p.aps [] p.dis))) (by
  refine .all fun n k => ?_
  rw [QgB]
  refine stF (decF (by simp)) ?_
  rw [Qm9]
  rfl) (by
  intro q x t hq hlt hat hw hev
  have hll : p.dis.length = q.length + (t.length + 1) := by rw [← hq]; simp
  have hFl : (F ++ QbN p.aps [] q).length ≤ 10000 := by rw [List.length_append]; have := Qna p.aps q []; omega
  have hlE := Qqh p.aps q x
  have inner := QtS lb p wa q.length (by omega) (disE p.aps q x) (by omega) (F ++ QbN p.aps [] q) hFl (QcN (F ++ QbN p.aps [] p.dis)) (disE p.aps q x) [] rfl
  refine Evt.imp2 hev (Evt.imp2 (inner.and (Evt.ge 5)) (Qmn lb p q t x hq h2 (by omega)) fun n a b => And.intro a b) fun n hn hc k hk => ?_
  obtain ⟨⟨a1, a2⟩, a3⟩ := hc
  have hn := hn k hk
  rw [QgB]
  refine stT (decT hlt) (stO _ a3 ?_)
  rw [Qrc, ← List.append_assoc] at hn
  have a1 := a1 n k (by omega) (by rw [hw]; exact hn)
  simpa using a1) p.dis [] rfl
 refine (Evt.diag key).mono fun n hn => ?_
 simpa [QbN] using hn
theorem Qpw (p : Pc) (h1 : p.aps.length ≤ 1000) (h2 : p.dis.length ≤ 1000) (hs : ∀ a ∈ p.aps, a.code.length ≤ 281474976710656 ∧ a.city.length ≤ 281474976710656 ∧ a.ctry.length ≤ 281474976710656) : Ret lb Qae [pcv p] (QcN (QfG p)) := by
 refine .top rfl (.eq (fun n => by rw [QqV]) ?_)
 have key := Qeg (enc := apcv) (l := p.aps) (by omega) (P := fun q t n k => Qd3 lb n k p.an (p.aps.map apcv) p.dn (p.dis.map dicv) (QbM [] q).isEmpty ((QbM [] q).map Qa0) (q.length : Int) = some (QcN (QfG p))) (by
  have hF := Qja p.aps []
  refine (QvS lb p h1 h2 (p.aps.length : Int) (QbM [] p.aps) (by omega)).mono fun n hn k => ?_
  rw [Qgx]
  refine stF (decF (by simp)) ?_
  rw [Qnz]
  exact hn) (by
  intro q x t hq hlt hat hw hev
  have hll : p.aps.length = q.length + (t.length + 1) := by rw [← hq]; simp
  have hFl : (QbM [] q).length ≤ 10000 := by have := Qja q []; omega
  have hlE := Qqi q x
  obtain ⟨b1, b2, b3⟩ := hs x (by rw [← hq]; simp)
  have inner := Qtm lb p q.length (by omega) (airE q x) (by omega) (QbM [] q) hFl (QcN (QfG p)) (airE q x) [] rfl
  refine Evt.imp2 hev (Evt.imp2 (inner.and (Evt.ge 5)) (Qnb lb p q t x hq h1 b1 b2 b3) fun n a b => And.intro a b) fun n hn hc k hk => ?_
  obtain ⟨⟨a1, a2⟩, a3⟩ := hc
  have hn := hn k hk
  rw [Qgx]
  refine stT (decT hlt) (stO _ a3 ?_)
  rw [Qrh] at hn
  have a1 := a1 n k (by omega) (by rw [hw]; exact hn)
  simpa using a1) p.aps [] rfl
 exact Evt.diag key
theorem QqP {p : Pc} (h : QfG p = []) : ∀ a ∈ p.aps, QdH a.off a.sh = 0 := by
 have h1 : QbM [] p.aps = [] := (List.append_eq_nil_iff.1 h).1
 have gen : ∀ (t r : List Ap), QbM r t = [] → ∀ a ∈ t, QdH a.off a.sh = 0 := by
  intro t
  induction t with
  | nil => intro r _ a ha; cases ha
  | cons x t ih =>
   intro r hr a ha
   simp only [QbM] at hr
   obtain ⟨h2, h3⟩ := List.append_eq_nil_iff.1 hr
   rcases List.mem_cons.1 ha with rfl | ha
   ·have : airE r a = [] := by simpa using h2
    unfold airE at this
    have := (List.append_eq_nil_iff.1 this).2
    by_cases hz : QdH a.off a.sh = 0
    ·exact hz
    ·rw [if_pos (bneT hz)] at this
     cases this
   ·exact ih _ h3 a ha
 exact gen _ _ h1
theorem Qi4 {p : Pc} (h1 : p.aps.length ≤ 1000) (h : QfG p = []) : Qd1 p := ⟨by omega, fun a ha => by
 have := QqP h a ha
 unfold QdH at this
 split at this
 ·omega
 ·omega⟩
def Qcj (x : Lg) : Nat := x.fro.length + x.to.length + x.eq.length
def bigB (p : Pc) (f : Fl) : Bool := decide (f.car.length + ((f.legs.take 20).map Qcj).sum > 400) || (decide (f.legs.length > 12) || (decide (p.aps.length > 20) || decide (p.dis.length > 40)))
theorem QrA (p : Pc) (f : Fl) (hc : f.car.length ≤ 281474976710656) (hx : ∀ x ∈ f.legs, Qcj x ≤ 1000000000000000) (hl : f.legs.length ≤ 281474976710656) (hp1 : p.aps.length ≤ 281474976710656) (hp2 : p.dis.length ≤ 281474976710656) : Ret lb QbX [pcv p, flcv f] (.bool (bigB p f)) := by
 refine .top rfl (.eq (fun n => by rw [Qsl]) ?_)
 have fin : ∀ (n : Nat) (i : Int) (q : List Lg), q = f.legs.take 20 → QgJ lb n p.an (p.aps.map apcv) p.dn (p.dis.map dicv) f.car f.num f.fr f.to f.days f.ln (f.legs.map lgcv) ((f.car.length + (q.map Qcj).sum : Nat) : Int) i = some (.bool (bigB p f)) := by
  intro n i q hq
  subst hq
  rw [Qpx]
  unfold bigB
  simp only [List.length_map]
  by_cases c1 : f.car.length + ((f.legs.take 20).map Qcj).sum > 400
  ·rw [decT c1, decT (by omega)]; rfl
  rw [decF c1, decF (by omega), cond_false, Bool.false_or]
  by_cases c2 : f.legs.length > 12
  ·rw [decT c2, decT (by omega)]; rfl
  rw [decF c2, decF (by omega), cond_false, Bool.false_or]
  by_cases c3 : p.aps.length > 20
  ·rw [decT c3, decT (by omega)]; rfl
  rw [decF c3, decF (by omega), cond_false, Bool.false_or]
  congr 2
  exact decide_eq_decide.2 (by omega)
 have key := Qeg (enc := lgcv) (l := f.legs) (by omega) (P := fun q t n k => q.length ≤ 20 → (q.map Qcj).sum ≤ q.length * 1000000000000000 → r07_Big_L1 lb n k p.an (p.aps.map apcv) p.dn (p.dis.map dicv) f.car f.num f.fr f.to f.days f.ln (f.legs.map lgcv) ((f.car.length + (q.map Qcj).sum : Nat) : Int) (q.length : Int) = some (.bool (bigB p f))) (by
  refine .all fun n k hk _ => ?_
  rw [Qh4]
  refine stF (decF (by simp)) ?_
  exact fin n _ _ (by rw [List.take_of_length_le (by omega)])) (by
  intro q x t hq hlt hat hw hev
  refine hev.mono fun n hn k hk hq20 hs => ?_
  have hn := hn k hk
  have hxl := hx x (by rw [← hq]; simp)
  rw [Qh4]
  refine stT (decT hlt) ?_
  by_cases c : q.length < 20
  ·refine stT (decT (by omega)) (stO _ hat (stC rfl (stO _ rfl (stO _ rfl (stO _ hat (stC rfl (stO _ rfl (stO _ rfl (stO _ hat (stC rfl (stO _ rfl (stO _ rfl ?_))))))))))))
   have h20 : q.length * 1000000000000000 ≤ 20 * 1000000000000000 := Nat.mul_le_mul (by omega) (Nat.le_refl _)
   unfold Qcj at hxl
   rw [hw, Qaz (x := ((f.car.length + (q.map Qcj).sum : Nat) : Int) + (x.fro.length : Int)) (by omega) (by omega), Qaz (x := ((f.car.length + (q.map Qcj).sum : Nat) : Int) + (x.fro.length : Int) + (x.to.length : Int)) (by omega) (by omega), Qaz (by omega) (by omega)]
   have hn := hn (by simp; omega) (by simp [Qcj]; omega)
   have e : ((f.car.length + ((q ++ [x]).map Qcj).sum : Nat) : Int) = ((f.car.length + (q.map Qcj).sum : Nat) : Int) + (x.fro.length : Int) + (x.to.length : Int) + (x.eq.length : Int) := by
    simp [Qcj]; omega
   rw [← e]
   exact hn
  ·refine stF (decF (by omega)) ?_
   exact fin n _ _ (by rw [← hq, List.take_append, List.take_of_length_le (by omega)]; simp; omega)) f.legs [] rfl
 refine (Evt.diag key).mono fun n hn => ?_
 simpa using hn (by simp) (by simp)
theorem Qtf : ∀ {l : List Nat} {x : Nat}, x ∈ l → x ≤ l.sum
 | y :: l, x, h => by
  rw [List.sum_cons]
  rcases List.mem_cons.1 h with rfl | h
  ·omega
  ·have := Qtf h; omega
theorem Qjh {p : Pc} {f : Fl} (h : bigB p f = false) : f.car.length ≤ 400 ∧ (∀ x ∈ f.legs, x.fro.length ≤ 400 ∧ x.to.length ≤ 400 ∧ x.eq.length ≤ 400) ∧ f.legs.length ≤ 12 ∧ p.aps.length ≤ 20 ∧ p.dis.length ≤ 40 := by
 unfold bigB at h
 simp only [Bool.or_eq_false_iff, decide_eq_false_iff_not] at h
 obtain ⟨h1, h2, h3, h4⟩ := h
 rw [List.take_of_length_le (by omega)] at h1
 refine ⟨by omega, fun x hx => ?_, by omega, by omega, by omega⟩
 have : Qcj x ≤ (f.legs.map Qcj).sum := Qtf (List.mem_map_of_mem hx)
 have e : Qcj x = x.fro.length + x.to.length + x.eq.length := rfl
 omega
end Go.Proofs
set_option linter.unusedSimpArgs false
set_option linter.unusedVariables false
namespace Go.Proofs
open Go.Am
variable (lb : Nat)
def ArgP (p : Pc) : Prop := p.aps.length ≤ 281474976710656 ∧ p.dis.length ≤ 281474976710656 ∧ ∀ a ∈ p.aps, a.code.length ≤ 281474976710656 ∧ a.city.length ≤ 281474976710656 ∧ a.ctry.length ≤ 281474976710656
def ArgF (f : Fl) : Prop := f.car.length ≤ 281474976710656 ∧ f.legs.length ≤ 281474976710656 ∧ ∀ x ∈ f.legs, Qcj x ≤ 1000000000000000
theorem Qvo (p : Pc) (f : Fl) (hp : ArgP p) (hf : ArgF f) : Ret lb QbX [pcv p, flcv f] (.bool (bigB p f)) := QrA lb p f hf.1 hf.2.2 hf.2.1 hp.1 hp.2.1
theorem Qq6 {fr days d : Int} (h : onF days d = true) : ∀ {k : Nat}, fr ≤ d → d < fr + k → d ∈ upto fr days k
 | 0, h1, h2 => by omega
 | k + 1, h1, h2 => by
  simp only [upto, List.mem_append]
  by_cases e : d = fr + k
  ·subst e; rw [if_pos h]; exact .inr (by simp)
  ·exact .inl (Qq6 h h1 (by omega))
theorem QtI {fr to days d : Int} (h : hasF fr to days d = true) : d ∈ Qan fr to days := by
 unfold hasF at h
 simp only [Bool.and_eq_true, decide_eq_true_eq] at h
 obtain ⟨h0, h1, h2, h3⟩ := h
 unfold Qan
 rw [if_pos h0]
 exact Qq6 h3 h1 (by omega)
theorem QoK {p : Pc} {l : List Lg} : ∀ {D : List Int}, QcV p l D = [] → ∀ d ∈ D, ordF p l d = true
 | d :: D, h, e, he => by
  unfold QcV at h
  split at h
  ·rcases List.mem_cons.1 he with rfl | he
   ·assumption
   ·exact QoK h e he
  ·cases h
theorem QgL {p : Pc} {f : Fl} (h : QaL p f = []) : f.legs.length ≤ 6 ∧ 1 ≤ f.legs.length ∧ QdO f = [] ∧ Qa8 p [] f.legs = [] ∧ ∀ d, hasF f.fr f.to f.days d = true → ordF p f.legs d = true := by
 unfold QaL at h
 split at h
 ·rename_i hl
  exfalso
  unfold QfT at h
  rw [if_pos (by rw [Bool.or_eq_true, decide_eq_true_eq, decide_eq_true_eq]; omega)] at h
  simp at h
 ·rename_i hl
  split at h
  ·rename_i h2
   obtain ⟨a, b⟩ := List.append_eq_nil_iff.1 h2
   exact ⟨by omega, by omega, a, b, fun d hd => QoK h d (QtI hd)⟩
  ·rename_i h2
   exact absurd h h2
instance : DecidableEq Lg := fun a b => by
 cases a; cases b
 simp only [Lg.mk.injEq]
 infer_instance
def lgB (x y : Lg) : Bool := (x.fro == y.fro) && ((x.to == y.to) && ((x.dep == y.dep) && ((x.arr == y.arr) && ((x.eq == y.eq) && true))))
def lgsB : List Lg → List Lg → Bool
 | [], [] => true
 | x :: a, y :: b => lgB x y && lgsB a b
 | _, _ => false
theorem Qmd : ∀ {a b : List Lg}, lgsB a b = true → a.length = b.length
 | [], [], _ => rfl
 | x :: a, y :: b, h => by
  simp only [lgsB, Bool.and_eq_true] at h
  simp [Qmd h.2]
 | [], y :: b, h => by cases h
 | x :: a, [], h => by cases h
theorem Qt5 (x : Lg) : lgB x x = true := by simp [lgB]
theorem QkG : ∀ a : List Lg, lgsB a a = true
 | [] => rfl
 | x :: a => by simp [lgsB, Qt5, QkG a]
theorem Qr4 (f : Nat → Nat → Int → Option CV) (an bn : Bool) (a b : List Lg) (hl : a.length ≤ 1000) (he : a.length = b.length)
  (step : ∀ n k q x y, (q : Nat) < a.length → a[q]? = some x → b[q]? = some y → f n (k + 1) (q : Int) = (bif !lgB x y then some (.bool false) else f n k (IntKind.wrap .i64 ((q : Int) + 1)))) (stop : ∀ n k, f n (k + 1) (a.length : Int) = some (.bool true)) :
  Evt fun n => f n n 0 = some (.bool (lgsB a b)) := by
 have key : ∀ (t s q r : List Lg), q ++ t = a → r ++ s = b → q.length = r.length → t.length = s.length → ∀ n k, t.length < k → f n k (q.length : Int) = some (.bool (lgsB t s)) := by
  intro t
  induction t with
  | nil =>
   intro s q r hq hr h1 h2 n k hk
   obtain ⟨k, rfl⟩ : ∃ m, k = m + 1 := ⟨k - 1, by simp at hk; omega⟩
   have : q = a := by simpa using hq
   subst this
   have : s = [] := List.length_eq_zero_iff.1 (by simpa using h2.symm)
   subst this
   exact stop n k
  | cons x t ih =>
   intro s q r hq hr h1 h2 n k hk
   obtain ⟨k, rfl⟩ : ∃ m, k = m + 1 := ⟨k - 1, by simp at hk; omega⟩
   cases s with
   | nil => simp at h2
   | cons y s =>
    have hal : a.length = q.length + (t.length + 1) := by rw [← hq]; simp
    rw [step n k q.length x y (by omega) (by rw [← hq]; simp) (by rw [← hr, h1]; simp)]
    rw [Qaz (by omega) (by omega), show (q.length : Int) + 1 = ((q ++ [x]).length : Int) by simp]
    rw [ih s (q ++ [x]) (r ++ [y]) (by rw [← hq]; simp) (by rw [← hr]; simp) (by simp [h1]) (by simpa using h2) n k (by simp at hk; omega)]
    rw [show lgsB (x :: t) (y :: s) = (lgB x y && lgsB t s) from rfl]
    cases lgB x y <;> rfl
 exact ⟨a.length + 1, fun n hn => key a b [] [] rfl rfl rfl he n n (by omega)⟩
theorem QeO (an bn : Bool) (a b : List Lg) (hl : a.length ≤ 1000) (hb : b.length ≤ 1000) : Ret lb QaS [.list an (a.map lgcv), .list bn (b.map lgcv)] (.bool (lgsB a b)) := by
 by_cases he : a.length = b.length
 ·refine .top rfl (.eq (fun n => by rw [QhN, bneF (by simp [he]), cond_false]) (Qr4 (fun n k i => r07_SameLegs_L1 lb n k an (a.map lgcv) bn (b.map lgcv) i) an bn a b hl he (fun n k q x y hq hx hy => ?_) fun n k => ?_))
  ·have h1 : atL (a.map lgcv) (q : Int) = some (lgcv x) := QaI (by simp [hx])
   have h2 : atL (b.map lgcv) (q : Int) = some (lgcv y) := QaI (by simp [hy])
   show r07_SameLegs_L1 lb n (k + 1) an (a.map lgcv) bn (b.map lgcv) (q : Int) = _
   rw [Qfk, decT (by simp; omega), cond_true, h1, h2]
   rfl
  ·show r07_SameLegs_L1 lb n (k + 1) an (a.map lgcv) bn (b.map lgcv) (a.length : Int) = _
   rw [Qfk, decF (by simp), cond_false, QkI]
 ·refine .top rfl (.all fun n => ?_)
  rw [QhN, bneT (by simp; omega), cond_true]
  cases hc : lgsB a b with
  | false => rfl
  | true => exact absurd (Qmd hc) he
theorem Qol (an bn : Bool) (a b : List Lg) (hl : a.length ≤ 1000) (hb : b.length ≤ 1000) : Ret lb QaD [.list an (a.map lgcv), .list bn (b.map lgcv)] (.bool (lgsB a b)) := by
 by_cases he : a.length = b.length
 ·refine .top rfl (.eq (fun n => by rw [Qek, bneF (by simp [he]), cond_false]) (Qr4 (fun n k i => Qbg lb n k an (a.map lgcv) bn (b.map lgcv) i) an bn a b hl he (fun n k q x y hq hx hy => ?_) fun n k => ?_))
  ·have h1 : atL (a.map lgcv) (q : Int) = some (lgcv x) := QaI (by simp [hx])
   have h2 : atL (b.map lgcv) (q : Int) = some (lgcv y) := QaI (by simp [hy])
   show Qbg lb n (k + 1) an (a.map lgcv) bn (b.map lgcv) (q : Int) = _
   rw [Qdg, decT (by simp; omega), cond_true, h1, h2]
   rfl
  ·show Qbg lb n (k + 1) an (a.map lgcv) bn (b.map lgcv) (a.length : Int) = _
   rw [Qdg, decF (by simp), cond_false, Qgn]
 ·refine .top rfl (.all fun n => ?_)
  rw [Qek, bneT (by simp; omega), cond_true]
  cases hc : lgsB a b with
  | false => rfl
  | true => exact absurd (Qmd hc) he
def QhK (f g : Fl) : Bool := (f.car == g.car) && ((f.num == g.num) && (((f.fr == g.fr) && ((f.to == g.to) && ((f.days == g.days) && true))) && lgsB f.legs g.legs))
theorem Qnq (f g : Fl) (hl : f.legs.length ≤ 1000) (hb : g.legs.length ≤ 1000) : Ret lb Qgq [flcv f, flcv g] (.bool (QhK f g)) := by
 refine .top rfl ((Qol lb f.ln g.ln f.legs g.legs hl hb).mono fun n hn => ?_)
 rw [Qn3, hn]
 unfold QhK
 cases (f.car == g.car) <;> cases (f.num == g.num) <;> cases ((f.fr == g.fr) && ((f.to == g.to) && ((f.days == g.days) && true))) <;> rfl
theorem Qqj (f g : Fl) (hl : f.legs.length ≤ 1000) (hb : g.legs.length ≤ 1000) : Ret lb QjB [flcv f, flcv g] (.bool (QhK f g)) := by
 refine .top rfl ((QeO lb f.ln g.ln f.legs g.legs hl hb).mono fun n hn => ?_)
 rw [QrD, hn]
 unfold QhK
 cases (f.car == g.car) <;> cases (f.num == g.num) <;> cases ((f.fr == g.fr) && ((f.to == g.to) && ((f.days == g.days) && true))) <;> rfl
end Go.Proofs
