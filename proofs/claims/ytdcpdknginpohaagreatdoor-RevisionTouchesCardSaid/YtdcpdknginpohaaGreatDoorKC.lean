/- Chapters 5 and 6 on plain data: what the reference's Check says of places; which flights and places are big. Conditions: as each says. -/
import Derived.Test.YtdcpdknginpohaaGreatDoorKB
import Derived.Test.YtdcpdknginpohaaGreatDoorGc
import Derived.Test.YtdcpdknginpohaaGreatDoorGd
import Derived.Test.YtdcpdknginpohaaGreatDoorW07
set_option linter.unusedSimpArgs false
namespace Go.Proofs
open Go.Am
variable (lb : Nat)
def okO (o : Int) : Bool := decide (-840 ≤ o ∧ o ≤ 840)
theorem Qic (o : Int) : Ret lb Qdx [.int .i64 o] (.bool (okO o)) := by
 refine .top rfl (.eq (fun n => by rw [Qom]) (.all fun n => ?_))
 unfold okO
 by_cases h : o ≥ -840
 ·rw [decT h, cond_true]
  congr 2
  exact decide_eq_decide.2 ⟨fun q => ⟨h, q⟩, fun q => q.2⟩
 ·rw [decF h, cond_false, decF (by omega)]
def shE : Option Int → List Sh → Int
 | _, [] => 0
 | b, x :: r => if x.1 < 0 ∨ x.1 ≥ 52596000 then 13 else if (match b with | some y => decide (x.1 - y < 2880) | none => false) = true then 13 else if okO x.2 then shE (some x.1) r else 2
def Qdr (off : Int) (sh : List Sh) : Int := if sh.length > 256 then 4 else if okO off then shE none sh else 2
theorem Qoe (off : Int) (sn : Bool) (sh : List Sh) : Ret lb Qbf [.agg [.int .i64 off, .list sn (sh.map shcv)]] (.int .i64 (Qdr off sh)) := by
 unfold Qdr
 by_cases hl : sh.length > 256
 ·refine .top rfl (.all fun n => ?_)
  rw [Qjd, if_pos hl]
  exact stT (decT (by rw [List.length_map]; omega)) rfl
 rw [if_neg hl]
 have key := QcD (enc := shcv) (l := sh) (by omega) (P := fun q t n k => (∀ y, q.getLast? = some y → 0 ≤ y.1 ∧ y.1 < 52596000) → QdA lb n k off sn (sh.map shcv) (q.length : Int) = some (.int .i64 (shE (q.getLast?.map (·.1)) t))) (by
  refine .all fun n k _ => ?_
  rw [QfY]
  refine stF (decF (by simp)) ?_
  rw [Qme]
  rfl) (by
  intro q x t hq hlt hat hw hev
  refine Evt.imp2 hev (Qic lb x.2) fun n hn h2 k hk hy => ?_
  have hn := hn k hk
  rw [List.getLast?_append] at hn
  simp only [List.getLast?_singleton, Option.some_or, Option.map_some, Option.some.injEq, forall_eq'] at hn
  rw [QfY]
  refine stT (decT hlt) (stO _ hat (stC rfl (stO _ rfl (stO _ rfl (stO _ rfl ?_)))))
  obtain ⟨b0, hb0⟩ : ∃ b, q.getLast?.map (·.1) = b := ⟨_, rfl⟩
  rw [hb0]
  unfold shE
  by_cases h1 : x.1 < 0
  ·rw [if_pos (.inl h1)]
   exact stT (decT h1) rfl
  refine stF (decF h1) (stO _ rfl ?_)
  by_cases h3 : x.1 ≥ 52596000
  ·rw [if_pos (.inr h3)]
   exact stT (decT h3) rfl
  refine stF (decF h3) ?_
  rw [if_neg (by omega)]
  have hn := hn ⟨by omega, by omega⟩
  rcases Qgi q with rfl | ⟨q', y, rfl⟩
  ·have : b0 = none := hb0.symm
   subst this
   rw [if_neg (by simp)]
   refine stF (decF (by simp)) (stO _ h2 (stO _ rfl ?_))
   cases ho : okO x.2 with
   | true =>
    rw [if_pos rfl, hw]
    exact stF rfl hn
   | false =>
    rw [if_neg (by simp)]
    exact stT rfl rfl
  ·rw [List.getLast?_append] at hb0 hy
   simp only [List.getLast?_singleton, Option.some_or, Option.map_some, Option.some.injEq, forall_eq'] at hb0 hy
   subst hb0
   have hll : sh.length = q'.length + (t.length + 2) := by rw [← hq]; simp only [List.length_append, List.length_cons, List.length_nil]; omega
   have hwl : IntKind.wrap .i64 (((q' ++ [y]).length : Int) - 1) = (q'.length : Int) := by
    rw [List.length_append, List.length_singleton, QaF (by omega) (by omega)]
    omega
   have hpre : atL (sh.map shcv) (q'.length : Int) = some (shcv y) := QaO (by rw [← hq]; simp)
   refine stT (decT (by rw [List.length_append, List.length_singleton]; omega)) ?_
   rw [hwl]
   refine stO _ hpre (stC rfl (stO _ rfl (stO _ rfl (stO _ rfl ?_))))
   rw [QaF (x := x.1 - y.1) (by omega) (by omega)]
   by_cases h4 : x.1 - y.1 < 2880
   ·rw [if_pos (decT h4)]
    exact stT (decT h4) rfl
   ·rw [if_neg (by simpa using h4)]
    refine stF (decF h4) (stO _ h2 (stO _ rfl ?_))
    cases ho : okO x.2 with
    | true =>
     rw [if_pos rfl, hw]
     exact stF rfl hn
    | false =>
     rw [if_neg (by simp)]
     exact stT rfl rfl) sh [] rfl
 refine .top rfl (Evt.imp2 (Qic lb off) (Evt.diag key) fun n h1 h2 => ?_)
 rw [Qjd]
 refine stF (decF (by rw [List.length_map]; omega)) (stO _ h1 (stO _ rfl ?_))
 cases ho : okO off with
 | true =>
  rw [if_pos rfl]
  exact stF rfl (h2 (by simp))
 | false =>
  rw [if_neg (by simp)]
  exact stT rfl rfl
def airE (q : List Ap) (x : Ap) : List Int :=
 (((if QdK x.code && (QdK x.city && Qgw x.ctry) then [] else [5]) ++ (if q.any (fun y => y.code == x.code) then [6] else [])) ++ (if q.any (fun y => y.city == x.city && !(y.ctry == x.ctry)) then [8] else [])) ++ (if Qdr x.off x.sh != 0 then [Qdr x.off x.sh] else [])
theorem Qpg (q : List Ap) (x : Ap) : (airE q x).length ≤ 4 := by
 have h : ∀ (c : Bool) (e : Int), (if c then [e] else [] : List Int).length ≤ 1 := fun c e => by cases c <;> simp
 unfold airE
 rw [List.length_append, List.length_append, List.length_append]
 have := Qsy (QdK x.code && (QdK x.city && Qgw x.ctry)) 5
 have := h (q.any (fun y => y.code == x.code)) 6
 have := h (q.any (fun y => y.city == x.city && !(y.ctry == x.ctry))) 8
 have := h (Qdr x.off x.sh != 0) (Qdr x.off x.sh)
 omega
theorem Qsn (n : Nat) (p : Pc) (q t : List Ap) (x : Ap) (h : q ++ x :: t = p.aps) (hl : p.aps.length ≤ 1000) (wm : Bool) (l17 : List (List CV)) (c6 : List CV) (jJ jL : CV) :
  ∀ (s r : List Ap) (tw mv : Bool) (k : Nat), r ++ s = q → s.length < k →
   Qbz lb n k p.an (p.aps.map apcv) p.dn (p.dis.map dicv) (q.length : Int) wm l17 c6 (.str x.code) (.str x.city) (.str x.ctry) jJ jL tw mv (r.length : Int) =
   QdV lb n p.an (p.aps.map apcv) p.dn (p.dis.map dicv) (q.length : Int) wm l17 c6 (.str x.code) (.str x.city) (.str x.ctry) jJ jL (tw || s.any (fun y => y.code == x.code)) (mv || s.any (fun y => y.city == x.city && !(y.ctry == x.ctry))) (q.length : Int)
 | [], r, tw, mv, k, hr, hk => by
  obtain ⟨k, rfl⟩ : ∃ m, k = m + 1 := ⟨k - 1, by simp at hk; omega⟩
  have hr : r = q := by simpa using hr
  subst hr
  rw [Qe6, decF (by omega), cond_false]
  simp
 | y :: s, r, tw, mv, k, hr, hk => by
  obtain ⟨k, rfl⟩ : ∃ m, k = m + 1 := ⟨k - 1, by simp at hk; omega⟩
  have hql : q.length = r.length + (s.length + 1) := by rw [← hr]; simp
  have hpl : p.aps.length = q.length + (t.length + 1) := by rw [← h]; simp
  have hat : atL (p.aps.map apcv) (r.length : Int) = some (apcv y) := QaO (by rw [← h, ← hr]; simp)
  have hw : IntKind.wrap .i64 ((r.length : Int) + 1) = ((r ++ [y]).length : Int) := by rw [QaF (by omega) (by omega)]; simp
  have ih := fun tw mv => Qsn n p q t x h hl wm l17 c6 jJ jL s (r ++ [y]) tw mv k (by rw [← hr]; simp) (by simp at hk; omega)
  rw [Qe6]
  refine stT (decT (by omega)) ?_
  rw [hw]
  simp only [hat, apcv, QaB, QaD, QaI, QaR, QaM, QaW, QaV, get0, get1, get2, get3, QaE, cond_true, cond_false, List.length_cons, List.length_nil, Nat.zero_add, Nat.reduceAdd, Nat.reduceBEq, beq_self_eq_true, Qas, Qar, get4, List.any_cons]
  cases tw with
  | true =>
   simp only [cond_true, Bool.true_or]
   cases mv with
   | true =>
    simp only [cond_true, Bool.true_or]
    rw [ih]; simp
   | false =>
    simp only [cond_false, Bool.false_or]
    cases hc : (y.city == x.city) with
    | true =>
     simp only [cond_true, Bool.true_and]
     rw [ih]; simp
    | false =>
     simp only [cond_false, Bool.false_and, Bool.false_or]
     rw [ih]; simp
  | false =>
   simp only [cond_false, Bool.false_or]
   cases mv with
   | true =>
    simp only [cond_true, Bool.true_or]
    rw [ih]; simp
   | false =>
    simp only [cond_false, Bool.false_or]
    cases hc : (y.city == x.city) with
    | true =>
     simp only [cond_true, Bool.true_and]
     rw [ih]
    | false =>
     simp only [cond_false, Bool.false_and, Bool.false_or]
     rw [ih]; simp
theorem QuA (n : Nat) (ja : Bool) (aair2 : List (List CV)) (jb : Bool) (adis4 : List (List CV)) (b5 : Int) (wG wo : Bool) (yc : Int) (c6 : List CV) (x7 x9 jq jJ jL : CV) (E : List Int) (hE : E.length ≤ 1000) (z : Int) (h : C lb n Qbf [.agg [jJ, jL]] = some (.int .i64 z)) :
  QdQ lb n ja aair2 jb adis4 b5 wG wo yc c6 x7 x9 jq jJ jL E.isEmpty (E.map ienc) = some (.list (E ++ if z != 0 then [z] else []).isEmpty ((E ++ if z != 0 then [z] else []).map ienc)) := by
 rw [Qkz]
 refine stO _ h (stO _ rfl ?_)
 simp only [Qar, QaE]
 exact Qdl (enc := ienc) (z != 0) E z 8 (by decide) (by omega) (fun b l => some (.list b l))
theorem Quo (n : Nat) (ja : Bool) (aair2 : List (List CV)) (jb : Bool) (adis4 : List (List CV)) (b5 : Int) (wm : Bool) (l17 : List (List CV)) (c6 : List CV) (x7 x9 jq jJ jL : CV) (wG wo : Bool) (yc : Int) (E : List Int) (hE : E.length ≤ 10) (hb : wm = E.isEmpty) (hl : l17 = E.map ienc) (z : Int) (h : C lb n Qbf [.agg [jJ, jL]] = some (.int .i64 z)) :
  QdV lb n ja aair2 jb adis4 b5 wm l17 c6 x7 x9 jq jJ jL wG wo yc = some (.list (((E ++ if wG then [6] else []) ++ if wo then [8] else []) ++ if z != 0 then [z] else []).isEmpty ((((E ++ if wG then [6] else []) ++ if wo then [8] else []) ++ if z != 0 then [z] else []).map ienc)) := by
 subst hb; subst hl
 have o : ∀ (c : Bool) (e : Int), (if c then [e] else [] : List Int).length ≤ 1 := fun c e => by cases c <;> simp
 rw [QkB]
 refine (Qdl (enc := ienc) wG E 6 8 (by decide) (by omega) _).trans ?_
 have hl1 : (E ++ if wG then [6] else []).length ≤ 11 := by rw [List.length_append]; have := o wG 6; omega
 generalize (E ++ if wG then [6] else []) = E1 at hl1
 rw [Qks]
 refine (Qdl (enc := ienc) wo E1 8 8 (by decide) (by omega) _).trans ?_
 have hl2 : (E1 ++ if wo then [8] else []).length ≤ 12 := by rw [List.length_append]; have := o wo 8; omega
 generalize (E1 ++ if wo then [8] else []) = E2 at hl2
 exact QuA lb (hE := by omega) (h := h) ..
theorem Qmm (p : Pc) (q t : List Ap) (x : Ap) (h : q ++ x :: t = p.aps) (hl : p.aps.length ≤ 1000) (h1 : x.code.length ≤ 281474976710656) (h2 : x.city.length ≤ 281474976710656) (h3 : x.ctry.length ≤ 281474976710656) :
  Ret lb QaC [pcv p, .int .i64 (q.length : Int)] (.list (airE q x).isEmpty ((airE q x).map ienc)) := by
 have hat : atL (p.aps.map apcv) (q.length : Int) = some (apcv x) := QaO (by rw [← h]; simp)
 have hpl : p.aps.length = q.length + (t.length + 1) := by rw [← h]; simp
 refine .top rfl (Evt.imp2 (Evt.imp2 (Evt.imp2 (QgX lb x.code h1) (QgX lb x.city h2) fun n a b => And.intro a b) (Ql3 lb x.ctry h3) fun n a b => And.intro a b) (Evt.and (Qoe lb x.off x.sn x.sh) (Evt.ge (q.length + 1))) fun n hc hz => ?_)
 obtain ⟨⟨a1, a2⟩, a3⟩ := hc
 obtain ⟨hz, hn⟩ := hz
 rw [Qng]
 refine stO _ hat (stC rfl (stO _ rfl (stO _ rfl (stO _ rfl (stO _ rfl (stO _ rfl (stO _ a1 (stO _ rfl ?_))))))))
 have fin : ∀ (E : List Int), E.length ≤ 10 → Qcx lb n p.an (p.aps.map apcv) p.dn (p.dis.map dicv) (q.length : Int) (apcv x) (.str x.code) (.str x.city) (.str x.ctry) (.int .i64 x.off) (.list x.sn (x.sh.map shcv)) E.isEmpty (E.map ienc) =
   some (.list (((E ++ if q.any (fun y => y.code == x.code) then [6] else []) ++ if q.any (fun y => y.city == x.city && !(y.ctry == x.ctry)) then [8] else []) ++ if Qdr x.off x.sh != 0 then [Qdr x.off x.sh] else []).isEmpty
    ((((E ++ if q.any (fun y => y.code == x.code) then [6] else []) ++ if q.any (fun y => y.city == x.city && !(y.ctry == x.ctry)) then [8] else []) ++ if Qdr x.off x.sh != 0 then [Qdr x.off x.sh] else []).map ienc)) := by
  intro E hE
  rw [QkA]
  refine (Qsn lb n p q t x h hl _ _ _ _ _ q [] false false n rfl (by omega)).trans ?_
  rw [Bool.false_or, Bool.false_or]
  exact Quo lb (hE := hE) (hb := rfl) (hl := rfl) (h := hz) ..
 unfold airE
 cases QdK x.code with
 | false => exact stT rfl (fin [5] (by simp))
 | true =>
  refine stF rfl (stO _ a2 (stO _ rfl ?_))
  cases QdK x.city with
  | false => exact stT rfl (fin [5] (by simp))
  | true =>
   refine stF rfl (stO _ a3 (stO _ rfl ?_))
   cases Qgw x.ctry with
   | false => exact stT rfl (fin [5] (by simp))
   | true => exact stF rfl (fin [] (by simp))
end Go.Proofs
set_option linter.unusedSimpArgs false
namespace Go.Proofs
open Go.Am
variable (lb : Nat)
def Qfs (s : Bs) : List Ap → Option Ap
 | [] => none
 | a :: t => if a.city = s then some a else Qfs s t
def Qrk (s : Bs) (l : List Ap) : CV := .tup [.agg (apcv ((Qfs s l).getD ap0)), .bool (Qfs s l).isSome]
theorem QjU (p : Pc) (s : Bs) (hp : p.aps.length ≤ 281474976710656) : Ret lb Qbx [pcv p, .str s] (Qrk s p.aps) := by
 refine .top rfl (.eq (fun n => by rw [Qqa]) ?_)
 refine Evt.diag (m := p.aps.length) (QcD (enc := apcv) (l := p.aps) hp (P := fun q t n k => Qfu lb n k p.an (p.aps.map apcv) p.dn (p.dis.map dicv) s (q.length : Int) = some (Qrk s t)) ?_ ?_ p.aps [] rfl)
 ·refine .all fun n k => ?_
  rw [QgS, decF (by simp), cond_false, Qm7]
  rfl
 ·intro q x t hq hlt hat hw hev
  refine hev.mono fun n hn k hk => ?_
  have hn := hn k hk
  rw [QgS, decT hlt, cond_true]
  simp only [hat, apcv, QaB, QaD, QaI, QaR, QaM, QaW, QaV, get0, get1, get2, get3, QaE, cond_true, cond_false, List.length_cons, List.length_nil, Nat.zero_add, Nat.reduceAdd, Nat.reduceBEq, beq_self_eq_true, Qas, Qar, get4, hw]
  unfold Qrk Qfs
  by_cases h : x.city = s
  ·rw [show (x.city == s) = true by simpa using h, cond_true, if_pos h]
   rfl
  ·rw [show (x.city == s) = false by simpa using h, cond_false, if_neg h]
   exact hn
def miB (m : Int) : Bool := decide (1 ≤ m ∧ m ≤ 20000)
theorem Qm4 (d : Di) : Ret lb QdE [.agg (dicv d)] (.bool (miB d.mi)) := by
 refine .top rfl (.all fun n => ?_)
 rw [dicv, Qot]
 unfold miB
 by_cases h : d.mi ≥ 1
 ·rw [decT h, cond_true]
  congr 2
  exact decide_eq_decide.2 ⟨fun q => ⟨h, q⟩, fun q => q.2⟩
 ·rw [decF h, cond_false, decF (by omega)]
def Qkp (x y : Di) : Bool := (y.fro == x.fro && y.to == x.to) || (y.fro == x.to && y.to == x.fro)
def disE (aps : List Ap) (q : List Di) (x : Di) : List Int :=
 ((if (Qfs x.fro aps).isSome && (Qfs x.to aps).isSome then [] else [14]) ++ (if q.any (Qkp x) then [6] else [])) ++ (if !miB x.mi || x.fro == x.to then [2] else [])
theorem Qpa (aps : List Ap) (q : List Di) (x : Di) : (disE aps q x).length ≤ 3 := by
 have h : ∀ (c : Bool) (e : Int), (if c then [e] else [] : List Int).length ≤ 1 := fun c e => by cases c <;> simp
 unfold disE
 rw [List.length_append, List.length_append]
 have := Qsy ((Qfs x.fro aps).isSome && (Qfs x.to aps).isSome) 14
 have := h (q.any (Qkp x)) 6
 have := h (!miB x.mi || x.fro == x.to) 2
 omega
theorem Qul (n : Nat) (ja : Bool) (aair2 : List (List CV)) (jb : Bool) (adis4 : List (List CV)) (b5 : Int) (jz jO : CV) (ya : Bool) (yu : Int) (c6 : List CV) (x7 x9 jq jW jZ jU jx jA ji ju jy jk jr jX jt jK jQ : CV) (E : List Int) (hE : E.length ≤ 1000) (d : Di) (h7 : x7 = .str d.fro) (h9 : x9 = .str d.to) (h10 : jq = .int .i64 d.mi) (h : C lb n QdE [.agg (dicv d)] = some (.bool (miB d.mi))) :
  Qdu lb n ja aair2 jb adis4 b5 jz jO ya yu c6 x7 x9 jq jW jZ jU jx jA ji ju jy jk jr jX jt jK jQ E.isEmpty (E.map ienc) = some (.list (E ++ if !miB d.mi || d.fro == d.to then [2] else []).isEmpty ((E ++ if !miB d.mi || d.fro == d.to then [2] else []).map ienc)) := by
 subst h7; subst h9; subst h10
 rw [Qj9]
 refine stO _ h (stO _ rfl ?_)
 have e : ∀ x y : Option CV, (bif !miB d.mi then x else optO (CV.asS (.str d.fro)) fun om => optO (CV.asS (.str d.to)) fun oj => bif om == oj then x else y) = (bif !miB d.mi || d.fro == d.to then x else y) := fun x y => by
  cases miB d.mi <;> rfl
 refine (e _ _).trans ?_
 exact Qdl (enc := ienc) (!miB d.mi || d.fro == d.to) E 2 8 (by decide) (by omega) (fun b l => some (.list b l))
theorem Qud (n : Nat) (ja : Bool) (aair2 : List (List CV)) (jb : Bool) (adis4 : List (List CV)) (b5 : Int) (wC : Bool) (l37 : List (List CV)) (jz jO : CV) (c6 : List CV) (x7 x9 jq jW jZ jU jx jA ji ju jy jk jr jX jt jK jQ : CV) (ya : Bool) (yu : Int) (E : List Int) (hE : E.length ≤ 100) (hb : wC = E.isEmpty) (hl : l37 = E.map ienc) (d : Di) (h7 : x7 = .str d.fro) (h9 : x9 = .str d.to) (h10 : jq = .int .i64 d.mi) (h : C lb n QdE [.agg (dicv d)] = some (.bool (miB d.mi))) :
  Qdt lb n ja aair2 jb adis4 b5 wC l37 jz jO c6 x7 x9 jq jW jZ jU jx jA ji ju jy jk jr jX jt jK jQ ya yu = some (.list ((E ++ if ya then [6] else []) ++ if !miB d.mi || d.fro == d.to then [2] else []).isEmpty (((E ++ if ya then [6] else []) ++ if !miB d.mi || d.fro == d.to then [2] else []).map ienc)) := by
 subst hb; subst hl
 have o : ∀ (c : Bool) (e : Int), (if c then [e] else [] : List Int).length ≤ 1 := fun c e => by cases c <;> simp
 rw [Qkc]
 refine (Qdl (enc := ienc) ya E 6 8 (by decide) (by omega) _).trans ?_
 have hl1 : (E ++ if ya then [6] else []).length ≤ 101 := by rw [List.length_append]; have := o ya 6; omega
 generalize (E ++ if ya then [6] else []) = E1 at hl1
 exact Qul lb (hE := by omega) (d := d) (h7 := h7) (h9 := h9) (h10 := h10) (h := h) ..
theorem Quw (p : Pc) (q t : List Di) (x : Di) (h : q ++ x :: t = p.dis) (hl : p.dis.length ≤ 1000) (n : Nat) (ja : Bool) (aair2 : List (List CV)) (jb : Bool) (adis4 : List (List CV)) (b5 : Int) (wC : Bool) (l37 : List (List CV)) (jz jO : CV) (c6 : List CV) (x7 x9 jq jW jZ jU jx jA ji ju jy jk jr jX jt jK jQ : CV) (ha : adis4 = p.dis.map dicv) (hb : b5 = (q.length : Int)) (h7 : x7 = .str x.fro) (h9 : x9 = .str x.to) :
  ∀ (s r : List Di) (tw : Bool) (k : Nat), r ++ s = q → s.length < k →
   Qbk lb n k ja aair2 jb adis4 b5 wC l37 jz jO c6 x7 x9 jq jW jZ jU jx jA ji ju jy jk jr jX jt jK jQ tw (r.length : Int) = Qdt lb n ja aair2 jb adis4 b5 wC l37 jz jO c6 x7 x9 jq jW jZ jU jx jA ji ju jy jk jr jX jt jK jQ (tw || s.any (Qkp x)) (q.length : Int) := by
 subst h7; subst h9; subst hb; subst ha
 intro s
 induction s with
 | nil =>
  intro r tw k hr hk
  obtain ⟨k, rfl⟩ : ∃ m, k = m + 1 := ⟨k - 1, by simp at hk; omega⟩
  have hr : r = q := by simpa using hr
  subst hr
  rw [QeF, decF (by omega), cond_false]
  simp
 | cons y s ih =>
  intro r tw k hr hk
  obtain ⟨k, rfl⟩ : ∃ m, k = m + 1 := ⟨k - 1, by simp at hk; omega⟩
  have hql : q.length = r.length + (s.length + 1) := by rw [← hr]; simp
  have hpl : p.dis.length = q.length + (t.length + 1) := by rw [← h]; simp
  have hat : atL (p.dis.map dicv) (r.length : Int) = some (dicv y) := QaO (by rw [← h, ← hr]; simp)
  have hw : IntKind.wrap .i64 ((r.length : Int) + 1) = ((r ++ [y]).length : Int) := by rw [QaF (by omega) (by omega)]; simp
  have ih := fun tw => ih (r ++ [y]) tw k (by rw [← hr]; simp) (by simp at hk; omega)
  rw [QeF]
  refine stT (decT (by omega)) ?_
  rw [hw]
  simp only [hat, dicv, QaB, QaD, QaI, QaR, QaM, QaW, QaV, get0, get1, get2, get3, QaE, cond_true, cond_false, List.length_cons, List.length_nil, Nat.zero_add, Nat.reduceAdd, Nat.reduceBEq, beq_self_eq_true, Qas, Qar, List.any_cons]
  unfold Qkp at ih ⊢
  cases tw with
  | true =>
   simp only [cond_true, Bool.true_or]
   rw [ih]; simp
  | false =>
   simp only [cond_false, Bool.false_or]
   cases (y.fro == x.fro) with
   | true =>
    simp only [cond_true, Bool.true_and]
    cases (y.to == x.to) with
    | true =>
     simp only [cond_true, Bool.true_or]
     rw [ih]; simp
    | false =>
     simp only [cond_false, Bool.false_or]
     cases (y.fro == x.to) with
     | true =>
      simp only [cond_true, Bool.true_and]
      rw [ih]
     | false =>
      simp only [cond_false, Bool.false_and, Bool.false_or]
      rw [ih]; simp
   | false =>
    simp only [cond_false, Bool.false_and, Bool.false_or]
    cases (y.fro == x.to) with
    | true =>
     simp only [cond_true, Bool.true_and]
     rw [ih]
    | false =>
     simp only [cond_false, Bool.false_and, Bool.false_or]
     rw [ih]; simp
theorem Qlz (p : Pc) (q t : List Di) (x : Di) (h : q ++ x :: t = p.dis) (hl : p.dis.length ≤ 1000) (hp : p.aps.length ≤ 281474976710656) :
  Ret lb QaG [pcv p, .int .i64 (q.length : Int)] (.list (disE p.aps q x).isEmpty ((disE p.aps q x).map ienc)) := by
 have hat : atL (p.dis.map dicv) (q.length : Int) = some (dicv x) := QaO (by rw [← h]; simp)
 have hpl : p.dis.length = q.length + (t.length + 1) := by rw [← h]; simp
 refine .top rfl (Evt.imp2 (Evt.imp2 (QjU lb p x.fro hp) (QjU lb p x.to hp) fun n a b => And.intro a b) (Evt.and (Qm4 lb x) (Evt.ge (q.length + 1))) fun n hc hz => ?_)
 obtain ⟨a1, a2⟩ := hc
 obtain ⟨hz, hn⟩ := hz
 rw [QlS]
 refine stO _ hat (stC rfl (stO _ rfl (stO _ rfl (stO _ rfl (stO _ a1 (stO _ rfl (stO _ rfl (stO _ rfl (stO _ rfl (stO _ rfl (stC rfl (stO _ rfl (stO _ rfl (stO _ rfl (stO _ rfl (stO _ rfl (stO _ a2 (stO _ rfl (stO _ rfl (stO _ rfl (stO _ rfl (stO _ rfl (stC rfl (stO _ rfl (stO _ rfl (stO _ rfl (stO _ rfl (stO _ rfl (stO _ rfl ?_)))))))))))))))))))))))))))))
 have fin : ∀ (E : List Int), E.length ≤ 10 → ∀ jz jO jW jZ jU jx jA ji ju jy jk jr jX jt jK jQ, QcI lb n p.an (p.aps.map apcv) p.dn (p.dis.map dicv) (q.length : Int) jz jO (dicv x) (.str x.fro) (.str x.to) (.int .i64 x.mi) jW jZ jU jx jA ji ju jy jk jr jX jt jK jQ E.isEmpty (E.map ienc) =
   some (.list ((E ++ if q.any (Qkp x) then [6] else []) ++ if !miB x.mi || x.fro == x.to then [2] else []).isEmpty (((E ++ if q.any (Qkp x) then [6] else []) ++ if !miB x.mi || x.fro == x.to then [2] else []).map ienc)) := by
  intro E hE jz jO jW jZ jU jx jA ji ju jy jk jr jX jt jK jQ
  rw [QjK]
  refine (Quw lb p q t x h hl _ _ _ _ _ _ _ _ _ _ _ _ _ _ _ _ _ _ _ _ _ _ _ _ _ _ _ _ rfl rfl rfl rfl q [] false n rfl (by omega)).trans ?_
  rw [Bool.false_or]
  exact Qud lb (hE := by omega) (hb := rfl) (hl := rfl) (d := x) (h7 := rfl) (h9 := rfl) (h10 := rfl) (h := hz) ..
 unfold disE
 cases (Qfs x.fro p.aps).isSome with
 | false => exact stT rfl (fin [14] (by simp) ..)
 | true =>
  refine stF rfl (stO _ rfl ?_)
  cases (Qfs x.to p.aps).isSome with
  | false => exact stT rfl (fin [14] (by simp) ..)
  | true => exact stF rfl (fin [] (by simp) ..)
def Qda : Bs := [97, 105, 114, 112, 111, 114, 116, 32]
def QcL : Bs := [100, 105, 115, 116, 97, 110, 99, 101, 32]
def QbH : List Ap → List Ap → List Ft
 | _, [] => []
 | q, x :: t => (airE q x).map (fun e => (e, Qda ++ Lib.itoa (q.length : Int))) ++ QbH (q ++ [x]) t
def QbG (aps : List Ap) : List Di → List Di → List Ft
 | _, [] => []
 | q, x :: t => (disE aps q x).map (fun e => (e, QcL ++ Lib.itoa (q.length : Int))) ++ QbG aps (q ++ [x]) t
def Qfp (p : Pc) : List Ft := QbH [] p.aps ++ QbG p.aps [] p.dis
theorem QmB : ∀ (a r t : List Ap), QbH r (a ++ t) = QbH r a ++ QbH (r ++ a) t
 | [], r, t => by simp [QbH]
 | x :: a, r, t => by simp only [List.cons_append, QbH, QmB a (r ++ [x]) t, List.append_assoc, List.nil_append]
theorem Qiv : ∀ (t r : List Ap), (QbH r t).length ≤ 4 * t.length
 | [], r => by simp [QbH]
 | x :: t, r => by
  have := Qiv t (r ++ [x])
  have := Qpg r x
  simp only [QbH, List.length_append, List.length_map, List.length_cons]
  omega
theorem Qqd (q : List Ap) (x : Ap) : QbH [] (q ++ [x]) = QbH [] q ++ (airE q x).map (fun e => (e, Qda ++ Lib.itoa (q.length : Int))) := by
 rw [QmB]; simp [QbH]
theorem Qmc (aps : List Ap) : ∀ (a r t : List Di), QbG aps r (a ++ t) = QbG aps r a ++ QbG aps (r ++ a) t
 | [], r, t => by simp [QbG]
 | x :: a, r, t => by simp only [List.cons_append, QbG, Qmc aps a (r ++ [x]) t, List.append_assoc, List.nil_append]
theorem QlE (aps : List Ap) : ∀ (t r : List Di), (QbG aps r t).length ≤ 3 * t.length
 | [], r => by simp [QbG]
 | x :: t, r => by
  have := QlE aps t (r ++ [x])
  have := Qpa aps r x
  simp only [QbG, List.length_append, List.length_map, List.length_cons]
  omega
theorem Qqk (aps : List Ap) (q : List Di) (x : Di) : QbG aps [] (q ++ [x]) = QbG aps [] q ++ (disE aps q x).map (fun e => (e, QcL ++ Lib.itoa (q.length : Int))) := by
 rw [Qmc]; simp [QbG]
theorem Qr0 (p : Pc) (wh : Int) (i : Nat) (hi : i ≤ 1000) (E : List Int) (hE : E.length ≤ 1000) (F : List Ft) (hF : F.length ≤ 10000) (r : CV) :
  ∀ u q, q ++ u = E → Evt fun n => ∀ j k, u.length < j →
   QcV lb n k p.an (p.aps.map apcv) p.dn (p.dis.map dicv) wh (F ++ E.map fun e => (e, QcL ++ Lib.itoa (i : Int))).isEmpty ((F ++ E.map fun e => (e, QcL ++ Lib.itoa (i : Int))).map Qa1) (IntKind.wrap .i64 ((i : Int) + 1)) = some r →
   Qez lb n j k p.an (p.aps.map apcv) p.dn (p.dis.map dicv) wh (i : Int) (.list E.isEmpty (E.map ienc)) (F ++ q.map fun e => (e, QcL ++ Lib.itoa (i : Int))).isEmpty ((F ++ q.map fun e => (e, QcL ++ Lib.itoa (i : Int))).map Qa1) (q.length : Int) = some r
 | [], q, h => .all fun n j k hj hr => by
  obtain ⟨j, rfl⟩ : ∃ m, j = m + 1 := ⟨j - 1, by simp at hj; omega⟩
  have h : q = E := by simpa using h
  subst h
  rw [Qf2]
  refine stO _ rfl (stF (decF (by simp)) ?_)
  rw [QlZ]
  exact hr
 | e :: u, q, h => by
  have hq : E.length = q.length + (u.length + 1) := by rw [← h]; simp
  have hat : atL (E.map ienc) (q.length : Int) = some (ienc e) := QaO (by rw [← h]; simp)
  have hil := QdI (z := (i : Int)) (by omega) (by omega)
  refine (Evt.imp2 (Qr0 p wh i hi E hE F hF r u (q ++ [e]) (by rw [← h]; simp)) (Qdq lb (i : Int) (by omega) (by omega)) fun n h1 h2 => ?_)
  intro j k hj hr
  obtain ⟨j, rfl⟩ : ∃ m, j = m + 1 := ⟨j - 1, by simp at hj; omega⟩
  have h1 := h1 j k (by simp at hj; omega) hr
  rw [Qf2]
  refine stO _ rfl (stT (decT (by simp; omega)) (stO _ rfl (stO _ hat (stC rfl (stO _ rfl (stO _ h2 (stO _ rfl (stC (decT (by simp; omega)) (stC rfl (stC (QbN (by simp; omega) (by omega)) ?_))))))))))
  rw [QaF (by omega) (by omega), show (q.length : Int) + 1 = ((q ++ [e]).length : Int) by simp, Qbv (F ++ q.map fun e => (e, QcL ++ Lib.itoa (i : Int))) (e, QcL ++ Lib.itoa (i : Int))]
  simpa [List.map_append, List.append_assoc, Qa1, QcL] using h1
theorem Qsp (p : Pc) (i : Nat) (hi : i ≤ 1000) (E : List Int) (hE : E.length ≤ 1000) (F : List Ft) (hF : F.length ≤ 10000) (r : CV) :
  ∀ u q, q ++ u = E → Evt fun n => ∀ j k, u.length < j →
   Qdw lb n k p.an (p.aps.map apcv) p.dn (p.dis.map dicv) (F ++ E.map fun e => (e, Qda ++ Lib.itoa (i : Int))).isEmpty ((F ++ E.map fun e => (e, Qda ++ Lib.itoa (i : Int))).map Qa1) (IntKind.wrap .i64 ((i : Int) + 1)) = some r →
   QeO lb n j k p.an (p.aps.map apcv) p.dn (p.dis.map dicv) (i : Int) (.list E.isEmpty (E.map ienc)) (F ++ q.map fun e => (e, Qda ++ Lib.itoa (i : Int))).isEmpty ((F ++ q.map fun e => (e, Qda ++ Lib.itoa (i : Int))).map Qa1) (q.length : Int) = some r
 | [], q, h => .all fun n j k hj hr => by
  obtain ⟨j, rfl⟩ : ∃ m, j = m + 1 := ⟨j - 1, by simp at hj; omega⟩
  have h : q = E := by simpa using h
  subst h
  rw [Qf7]
  refine stO _ rfl (stF (decF (by simp)) ?_)
  rw [Qma]
  exact hr
 | e :: u, q, h => by
  have hq : E.length = q.length + (u.length + 1) := by rw [← h]; simp
  have hat : atL (E.map ienc) (q.length : Int) = some (ienc e) := QaO (by rw [← h]; simp)
  have hil := QdI (z := (i : Int)) (by omega) (by omega)
  refine (Evt.imp2 (Qsp p i hi E hE F hF r u (q ++ [e]) (by rw [← h]; simp)) (Qdq lb (i : Int) (by omega) (by omega)) fun n h1 h2 => ?_)
  intro j k hj hr
  obtain ⟨j, rfl⟩ : ∃ m, j = m + 1 := ⟨j - 1, by simp at hj; omega⟩
  have h1 := h1 j k (by simp at hj; omega) hr
  rw [Qf7]
  refine stO _ rfl (stT (decT (by simp; omega)) (stO _ rfl (stO _ hat (stC rfl (stO _ rfl (stO _ h2 (stO _ rfl (stC (decT (by simp; omega)) (stC rfl (stC (QbN (by simp; omega) (by omega)) ?_))))))))))
  rw [QaF (by omega) (by omega), show (q.length : Int) + 1 = ((q ++ [e]).length : Int) by simp, Qbv (F ++ q.map fun e => (e, Qda ++ Lib.itoa (i : Int))) (e, Qda ++ Lib.itoa (i : Int))]
  simpa [List.map_append, List.append_assoc, Qa1, Qda] using h1
theorem Quz (p : Pc) (h1 : p.aps.length ≤ 1000) (h2 : p.dis.length ≤ 1000) (wh : Int) (F : List Ft) (hF : F.length ≤ 5000) : Evt fun n => QcV lb n n p.an (p.aps.map apcv) p.dn (p.dis.map dicv) wh F.isEmpty (F.map Qa1) 0 = some (QcC (F ++ QbG p.aps [] p.dis)) := by
 have key := QcD (enc := dicv) (l := p.dis) (by omega) (P := fun q t n k => QcV lb n k p.an (p.aps.map apcv) p.dn (p.dis.map dicv) wh (F ++ QbG p.aps [] q).isEmpty ((F ++ QbG p.aps [] q).map Qa1) (q.length : Int) = some (QcC (F ++ QbG p.aps [] p.dis))) (by
  refine .all fun n k => ?_
  rw [Qf6]
  refine stF (decF (by simp)) ?_
  rw [Ql6]
  rfl) (by
  intro q x t hq hlt hat hw hev
  have hll : p.dis.length = q.length + (t.length + 1) := by rw [← hq]; simp
  have hFl : (F ++ QbG p.aps [] q).length ≤ 10000 := by rw [List.length_append]; have := QlE p.aps q []; omega
  have hlE := Qpa p.aps q x
  have inner := Qr0 lb p wh q.length (by omega) (disE p.aps q x) (by omega) (F ++ QbG p.aps [] q) hFl (QcC (F ++ QbG p.aps [] p.dis)) (disE p.aps q x) [] rfl
  refine Evt.imp2 hev (Evt.imp2 (inner.and (Evt.ge 5)) (Qlz lb p q t x hq h2 (by omega)) fun n a b => And.intro a b) fun n hn hc k hk => ?_
  obtain ⟨⟨a1, a2⟩, a3⟩ := hc
  have hn := hn k hk
  rw [Qf6]
  refine stT (decT hlt) (stO _ a3 ?_)
  rw [Qqk, ← List.append_assoc] at hn
  have a1 := a1 n k (by omega) (by rw [hw]; exact hn)
  simpa using a1) p.dis [] rfl
 refine (Evt.diag key).mono fun n hn => ?_
 simpa [QbG] using hn
theorem Qod (p : Pc) (h1 : p.aps.length ≤ 1000) (h2 : p.dis.length ≤ 1000) (hs : ∀ a ∈ p.aps, a.code.length ≤ 281474976710656 ∧ a.city.length ≤ 281474976710656 ∧ a.ctry.length ≤ 281474976710656) : Ret lb Qad [pcv p] (QcC (Qfp p)) := by
 refine .top rfl (.eq (fun n => by rw [Qpl]) ?_)
 have key := QcD (enc := apcv) (l := p.aps) (by omega) (P := fun q t n k => Qdw lb n k p.an (p.aps.map apcv) p.dn (p.dis.map dicv) (QbH [] q).isEmpty ((QbH [] q).map Qa1) (q.length : Int) = some (QcC (Qfp p))) (by
  have hF := Qiv p.aps []
  refine (Quz lb p h1 h2 (p.aps.length : Int) (QbH [] p.aps) (by omega)).mono fun n hn k => ?_
  rw [Qf4]
  refine stF (decF (by simp)) ?_
  rw [QlL]
  exact hn) (by
  intro q x t hq hlt hat hw hev
  have hll : p.aps.length = q.length + (t.length + 1) := by rw [← hq]; simp
  have hFl : (QbH [] q).length ≤ 10000 := by have := Qiv q []; omega
  have hlE := Qpg q x
  obtain ⟨b1, b2, b3⟩ := hs x (by rw [← hq]; simp)
  have inner := Qsp lb p q.length (by omega) (airE q x) (by omega) (QbH [] q) hFl (QcC (Qfp p)) (airE q x) [] rfl
  refine Evt.imp2 hev (Evt.imp2 (inner.and (Evt.ge 5)) (Qmm lb p q t x hq h1 b1 b2 b3) fun n a b => And.intro a b) fun n hn hc k hk => ?_
  obtain ⟨⟨a1, a2⟩, a3⟩ := hc
  have hn := hn k hk
  rw [Qf4]
  refine stT (decT hlt) (stO _ a3 ?_)
  rw [Qqd] at hn
  have a1 := a1 n k (by omega) (by rw [hw]; exact hn)
  simpa using a1) p.aps [] rfl
 exact Evt.diag key
theorem Qpk {p : Pc} (h : Qfp p = []) : ∀ a ∈ p.aps, Qdr a.off a.sh = 0 := by
 have h1 : QbH [] p.aps = [] := (List.append_eq_nil_iff.1 h).1
 have gen : ∀ (t r : List Ap), QbH r t = [] → ∀ a ∈ t, Qdr a.off a.sh = 0 := by
  intro t
  induction t with
  | nil => intro r _ a ha; cases ha
  | cons x t ih =>
   intro r hr a ha
   simp only [QbH] at hr
   obtain ⟨h2, h3⟩ := List.append_eq_nil_iff.1 hr
   rcases List.mem_cons.1 ha with rfl | ha
   ·have : airE r a = [] := by simpa using h2
    unfold airE at this
    have := (List.append_eq_nil_iff.1 this).2
    by_cases hz : Qdr a.off a.sh = 0
    ·exact hz
    ·rw [if_pos (bneT hz)] at this
     cases this
   ·exact ih _ h3 a ha
 exact gen _ _ h1
theorem Qh7 {p : Pc} (h1 : p.aps.length ≤ 1000) (h : Qfp p = []) : QbP p := ⟨by omega, fun a ha => by
 have := Qpk h a ha
 unfold Qdr at this
 split at this
 ·omega
 ·omega⟩
def Qb9 (x : Lg) : Nat := x.fro.length + x.to.length + x.eq.length
def bigB (p : Pc) (f : Fl) : Bool := decide (f.car.length + ((f.legs.take 20).map Qb9).sum > 400) || (decide (f.legs.length > 12) || (decide (p.aps.length > 20) || decide (p.dis.length > 40)))
theorem Qqq (p : Pc) (f : Fl) (hc : f.car.length ≤ 281474976710656) (hx : ∀ x ∈ f.legs, Qb9 x ≤ 1000000000000000) (hl : f.legs.length ≤ 281474976710656) (hp1 : p.aps.length ≤ 281474976710656) (hp2 : p.dis.length ≤ 281474976710656) : Ret lb QbO [pcv p, flcv f] (.bool (bigB p f)) := by
 refine .top rfl (.eq (fun n => by rw [QqX]) ?_)
 have fin : ∀ (n : Nat) (i : Int) (q : List Lg), q = f.legs.take 20 → Qgb lb n p.an (p.aps.map apcv) p.dn (p.dis.map dicv) f.car f.num f.fr f.to f.days f.ln (f.legs.map lgcv) ((f.car.length + (q.map Qb9).sum : Nat) : Int) i = some (.bool (bigB p f)) := by
  intro n i q hq
  subst hq
  rw [Qow]
  unfold bigB
  simp only [List.length_map]
  by_cases c1 : f.car.length + ((f.legs.take 20).map Qb9).sum > 400
  ·rw [decT c1, decT (by omega)]; rfl
  rw [decF c1, decF (by omega), cond_false, Bool.false_or]
  by_cases c2 : f.legs.length > 12
  ·rw [decT c2, decT (by omega)]; rfl
  rw [decF c2, decF (by omega), cond_false, Bool.false_or]
  by_cases c3 : p.aps.length > 20
  ·rw [decT c3, decT (by omega)]; rfl
  rw [decF c3, decF (by omega), cond_false, Bool.false_or]
  congr 2
  exact decide_eq_decide.2 (by omega)
 have key := QcD (enc := lgcv) (l := f.legs) (by omega) (P := fun q t n k => q.length ≤ 20 → (q.map Qb9).sum ≤ q.length * 1000000000000000 → r07_Big_L1 lb n k p.an (p.aps.map apcv) p.dn (p.dis.map dicv) f.car f.num f.fr f.to f.days f.ln (f.legs.map lgcv) ((f.car.length + (q.map Qb9).sum : Nat) : Int) (q.length : Int) = some (.bool (bigB p f))) (by
  refine .all fun n k hk _ => ?_
  rw [Qhc]
  refine stF (decF (by simp)) ?_
  exact fin n _ _ (by rw [List.take_of_length_le (by omega)])) (by
  intro q x t hq hlt hat hw hev
  refine hev.mono fun n hn k hk hq20 hs => ?_
  have hn := hn k hk
  have hxl := hx x (by rw [← hq]; simp)
  rw [Qhc]
  refine stT (decT hlt) ?_
  by_cases c : q.length < 20
  ·refine stT (decT (by omega)) (stO _ hat (stC rfl (stO _ rfl (stO _ rfl (stO _ hat (stC rfl (stO _ rfl (stO _ rfl (stO _ hat (stC rfl (stO _ rfl (stO _ rfl ?_))))))))))))
   have h20 : q.length * 1000000000000000 ≤ 20 * 1000000000000000 := Nat.mul_le_mul (by omega) (Nat.le_refl _)
   unfold Qb9 at hxl
   rw [hw, QaF (x := ((f.car.length + (q.map Qb9).sum : Nat) : Int) + (x.fro.length : Int)) (by omega) (by omega), QaF (x := ((f.car.length + (q.map Qb9).sum : Nat) : Int) + (x.fro.length : Int) + (x.to.length : Int)) (by omega) (by omega), QaF (by omega) (by omega)]
   have hn := hn (by simp; omega) (by simp [Qb9]; omega)
   have e : ((f.car.length + ((q ++ [x]).map Qb9).sum : Nat) : Int) = ((f.car.length + (q.map Qb9).sum : Nat) : Int) + (x.fro.length : Int) + (x.to.length : Int) + (x.eq.length : Int) := by
    simp [Qb9]; omega
   rw [← e]
   exact hn
  ·refine stF (decF (by omega)) ?_
   exact fin n _ _ (by rw [← hq, List.take_append, List.take_of_length_le (by omega)]; simp; omega)) f.legs [] rfl
 refine (Evt.diag key).mono fun n hn => ?_
 simpa using hn (by simp) (by simp)
theorem QrV : ∀ {l : List Nat} {x : Nat}, x ∈ l → x ≤ l.sum
 | y :: l, x, h => by
  rw [List.sum_cons]
  rcases List.mem_cons.1 h with rfl | h
  ·omega
  ·have := QrV h; omega
theorem QlH {p : Pc} {f : Fl} (h : bigB p f = false) : f.car.length ≤ 400 ∧ (∀ x ∈ f.legs, x.fro.length ≤ 400 ∧ x.to.length ≤ 400 ∧ x.eq.length ≤ 400) ∧ f.legs.length ≤ 12 ∧ p.aps.length ≤ 20 ∧ p.dis.length ≤ 40 := by
 unfold bigB at h
 simp only [Bool.or_eq_false_iff, decide_eq_false_iff_not] at h
 obtain ⟨h1, h2, h3, h4⟩ := h
 rw [List.take_of_length_le (by omega)] at h1
 refine ⟨by omega, fun x hx => ?_, by omega, by omega, by omega⟩
 have : Qb9 x ≤ (f.legs.map Qb9).sum := QrV (List.mem_map_of_mem hx)
 have e : Qb9 x = x.fro.length + x.to.length + x.eq.length := rfl
 omega
end Go.Proofs
set_option linter.unusedSimpArgs false
set_option linter.unusedVariables false
namespace Go.Proofs
open Go.Am
variable (lb : Nat)
def ArgP (p : Pc) : Prop := p.aps.length ≤ 281474976710656 ∧ p.dis.length ≤ 281474976710656 ∧ ∀ a ∈ p.aps, a.code.length ≤ 281474976710656 ∧ a.city.length ≤ 281474976710656 ∧ a.ctry.length ≤ 281474976710656
def ArgF (f : Fl) : Prop := f.car.length ≤ 281474976710656 ∧ f.legs.length ≤ 281474976710656 ∧ ∀ x ∈ f.legs, Qb9 x ≤ 1000000000000000
theorem Qt8 (p : Pc) (f : Fl) (hp : ArgP p) (hf : ArgF f) : Ret lb QbO [pcv p, flcv f] (.bool (bigB p f)) := Qqq lb p f hf.1 hf.2.2 hf.2.1 hp.1 hp.2.1
theorem Qpr {fr days d : Int} (h : onF days d = true) : ∀ {k : Nat}, fr ≤ d → d < fr + k → d ∈ upto fr days k
 | 0, h1, h2 => by omega
 | k + 1, h1, h2 => by
  simp only [upto, List.mem_append]
  by_cases e : d = fr + k
  ·subst e; rw [if_pos h]; exact .inr (by simp)
  ·exact .inl (Qpr h h1 (by omega))
theorem Qsx {fr to days d : Int} (h : hasF fr to days d = true) : d ∈ QaA fr to days := by
 unfold hasF at h
 simp only [Bool.and_eq_true, decide_eq_true_eq] at h
 obtain ⟨h0, h1, h2, h3⟩ := h
 unfold QaA
 rw [if_pos h0]
 exact Qpr h3 h1 (by omega)
theorem QnC {p : Pc} {l : List Lg} : ∀ {D : List Int}, Qc6 p l D = [] → ∀ d ∈ D, ordF p l d = true
 | d :: D, h, e, he => by
  unfold Qc6 at h
  split at h
  ·rcases List.mem_cons.1 he with rfl | he
   ·assumption
   ·exact QnC h e he
  ·cases h
theorem Qrm {p : Pc} {f : Fl} (h : QaZ p f = []) : f.legs.length ≤ 6 ∧ 1 ≤ f.legs.length ∧ QeP f = [] ∧ Qa8 p [] f.legs = [] ∧ ∀ d, hasF f.fr f.to f.days d = true → ordF p f.legs d = true := by
 unfold QaZ at h
 split at h
 ·rename_i hl
  exfalso
  unfold Qft at h
  rw [if_pos (by rw [Bool.or_eq_true, decide_eq_true_eq, decide_eq_true_eq]; omega)] at h
  simp at h
 ·rename_i hl
  split at h
  ·rename_i h2
   obtain ⟨a, b⟩ := List.append_eq_nil_iff.1 h2
   exact ⟨by omega, by omega, a, b, fun d hd => QnC h d (Qsx hd)⟩
  ·rename_i h2
   exact absurd h h2
instance : DecidableEq Lg := fun a b => by
 cases a; cases b
 simp only [Lg.mk.injEq]
 infer_instance
end Go.Proofs
