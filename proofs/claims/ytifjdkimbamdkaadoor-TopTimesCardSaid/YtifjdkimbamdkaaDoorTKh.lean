/- Chapters 5 and 6 on plain data: what the reference's Check says of places; which flights and places are big. Conditions: as each says. -/
import Derived.Test.YtifjdkimbamdkaaDoorTKg
import Derived.Test.YtifjdkimbamdkaaDoorTGc
set_option linter.unusedSimpArgs false
namespace Go.Proofs
open Go.Am
variable (lb : Bool)
/-! zones -/
def okO (o : Int) : Bool := decide (-840 ≤ o ∧ o ≤ 840)
theorem r05_offset_ret (o : Int) : Ret lb F_r05_offset [.int .i64 o] (.bool (okO o)) := by
  refine .top rfl (.eq (fun n => by rw [r05_offset_eq]) (.all fun n => ?_))
  unfold okO
  by_cases h : o ≥ -840
  · rw [decT h, cond_true]
    congr 2
    exact decide_eq_decide.2 ⟨fun q => ⟨h, q⟩, fun q => q.2⟩
  · rw [decF h, cond_false, decF (by omega)]
def shE : Option Int → List Sh → Int
  | _, [] => 0
  | b, x :: r => if x.1 < 0 ∨ x.1 ≥ 52596000 then 13 else if (match b with | some y => decide (x.1 - y < 2880) | none => false) = true then 13 else if okO x.2 then shE (some x.1) r else 2
def zoneE (off : Int) (sh : List Sh) : Int := if sh.length > 256 then 4 else if okO off then shE none sh else 2
theorem r05_Check_ret (off : Int) (sn : Bool) (sh : List Sh) : Ret lb F_r05_Check [.agg [.int .i64 off, .list sn (sh.map shcv)]] (.int .i64 (zoneE off sh)) := by
  unfold zoneE
  by_cases hl : sh.length > 256
  · refine .top rfl (.all fun n => ?_)
    rw [r05_Check_eq, if_pos hl]
    exact stT (decT (by rw [List.length_map]; omega)) rfl
  rw [if_neg hl]
  have key := loopL (enc := shcv) (l := sh) (by omega) (P := fun q t n k => (∀ y, q.getLast? = some y → 0 ≤ y.1 ∧ y.1 < 52596000) → r05_Check_L1 lb n k off sn (sh.map shcv) (q.length : Int) = some (.int .i64 (shE (q.getLast?.map (·.1)) t))) (by
    refine .all fun n k _ => ?_
    rw [r05_Check_L1_succ]
    refine stF (decF (by simp)) ?_
    rw [r05_Check_J2_eq]
    rfl) (by
    intro q x t hq hlt hat hw hev
    refine Evt.imp2 hev (r05_offset_ret lb x.2) fun n hn h2 k hk hy => ?_
    have hn := hn k hk
    rw [List.getLast?_append] at hn
    simp only [List.getLast?_singleton, Option.some_or, Option.map_some, Option.some.injEq, forall_eq'] at hn
    rw [r05_Check_L1_succ]
    refine stT (decT hlt) (stO _ hat (stC rfl (stO _ rfl (stO _ rfl (stO _ rfl ?_)))))
    obtain ⟨b0, hb0⟩ : ∃ b, q.getLast?.map (·.1) = b := ⟨_, rfl⟩
    rw [hb0]
    unfold shE
    by_cases h1 : x.1 < 0
    · rw [if_pos (.inl h1)]
      exact stT (decT h1) rfl
    refine stF (decF h1) (stO _ rfl ?_)
    by_cases h3 : x.1 ≥ 52596000
    · rw [if_pos (.inr h3)]
      exact stT (decT h3) rfl
    refine stF (decF h3) ?_
    rw [if_neg (by omega)]
    have hn := hn ⟨by omega, by omega⟩
    rcases snoc_cases q with rfl | ⟨q', y, rfl⟩
    · have : b0 = none := hb0.symm
      subst this
      rw [if_neg (by simp)]
      refine stF (decF (by simp)) (stO _ h2 (stO _ rfl ?_))
      cases ho : okO x.2 with
      | true =>
        rw [if_pos rfl, hw]
        exact stF rfl hn
      | false =>
        rw [if_neg (by simp)]
        exact stT rfl rfl
    · rw [List.getLast?_append] at hb0 hy
      simp only [List.getLast?_singleton, Option.some_or, Option.map_some, Option.some.injEq, forall_eq'] at hb0 hy
      subst hb0
      have hll : sh.length = q'.length + (t.length + 2) := by rw [← hq]; simp only [List.length_append, List.length_cons, List.length_nil]; omega
      have hwl : IntKind.wrap .i64 (((q' ++ [y]).length : Int) - 1) = (q'.length : Int) := by
        rw [List.length_append, List.length_singleton, wrap64 (by omega) (by omega)]
        omega
      have hpre : atL (sh.map shcv) (q'.length : Int) = some (shcv y) := atL_ok (by rw [← hq]; simp)
      refine stT (decT (by rw [List.length_append, List.length_singleton]; omega)) ?_
      rw [hwl]
      refine stO _ hpre (stC rfl (stO _ rfl (stO _ rfl (stO _ rfl ?_))))
      rw [wrap64 (x := x.1 - y.1) (by omega) (by omega)]
      by_cases h4 : x.1 - y.1 < 2880
      · rw [if_pos (decT h4)]
        exact stT (decT h4) rfl
      · rw [if_neg (by simpa using h4)]
        refine stF (decF h4) (stO _ h2 (stO _ rfl ?_))
        cases ho : okO x.2 with
        | true =>
          rw [if_pos rfl, hw]
          exact stF rfl hn
        | false =>
          rw [if_neg (by simp)]
          exact stT rfl rfl) sh [] rfl
  refine .top rfl (Evt.imp2 (r05_offset_ret lb off) (Evt.diag key) fun n h1 h2 => ?_)
  rw [r05_Check_eq]
  refine stF (decF (by rw [List.length_map]; omega)) (stO _ h1 (stO _ rfl ?_))
  cases ho : okO off with
  | true =>
    rw [if_pos rfl]
    exact stF rfl (h2 (by simp))
  | false =>
    rw [if_neg (by simp)]
    exact stT rfl rfl

/-! airports -/
def airE (q : List Ap) (x : Ap) : List Int :=
  (((if airportB x.code && (airportB x.city && countryB x.ctry) then [] else [5]) ++ (if q.any (fun y => y.code == x.code) then [6] else [])) ++ (if q.any (fun y => y.city == x.city && !(y.ctry == x.ctry)) then [8] else [])) ++ (if zoneE x.off x.sh != 0 then [zoneE x.off x.sh] else [])
theorem airE_len (q : List Ap) (x : Ap) : (airE q x).length ≤ 4 := by
  have h : ∀ (c : Bool) (e : Int), (if c then [e] else [] : List Int).length ≤ 1 := fun c e => by cases c <;> simp
  unfold airE
  rw [List.length_append, List.length_append, List.length_append]
  have := one_le (airportB x.code && (airportB x.city && countryB x.ctry)) 5
  have := h (q.any (fun y => y.code == x.code)) 6
  have := h (q.any (fun y => y.city == x.city && !(y.ctry == x.ctry))) 8
  have := h (zoneE x.off x.sh != 0) (zoneE x.off x.sh)
  omega
theorem air_L2 (n : Nat) (p : Pc) (q t : List Ap) (x : Ap) (h : q ++ x :: t = p.aps) (hl : p.aps.length ≤ 1000) (b15 : Bool) (l17 : List (List CV)) (c6 : List CV) (x11 x12 : CV) :
    ∀ (s r : List Ap) (tw mv : Bool) (k : Nat), r ++ s = q → s.length < k →
      r06_airport_L2 lb n k p.an (p.aps.map apcv) p.dn (p.dis.map dicv) (q.length : Int) b15 l17 c6 (.str x.code) (.str x.city) (.str x.ctry) x11 x12 tw mv (r.length : Int) =
      r06_airport_J3 lb n p.an (p.aps.map apcv) p.dn (p.dis.map dicv) (q.length : Int) b15 l17 c6 (.str x.code) (.str x.city) (.str x.ctry) x11 x12 (tw || s.any (fun y => y.code == x.code)) (mv || s.any (fun y => y.city == x.city && !(y.ctry == x.ctry))) (q.length : Int)
  | [], r, tw, mv, k, hr, hk => by
    obtain ⟨k, rfl⟩ : ∃ m, k = m + 1 := ⟨k - 1, by simp at hk; omega⟩
    have hr : r = q := by simpa using hr
    subst hr
    rw [r06_airport_L2_succ, decF (by omega), cond_false]
    simp
  | y :: s, r, tw, mv, k, hr, hk => by
    obtain ⟨k, rfl⟩ : ∃ m, k = m + 1 := ⟨k - 1, by simp at hk; omega⟩
    have hql : q.length = r.length + (s.length + 1) := by rw [← hr]; simp
    have hpl : p.aps.length = q.length + (t.length + 1) := by rw [← h]; simp
    have hat : atL (p.aps.map apcv) (r.length : Int) = some (apcv y) := atL_ok (by rw [← h, ← hr]; simp)
    have hw : IntKind.wrap .i64 ((r.length : Int) + 1) = ((r ++ [y]).length : Int) := by rw [wrap64 (by omega) (by omega)]; simp
    have ih := fun tw mv => air_L2 n p q t x h hl b15 l17 c6 x11 x12 s (r ++ [y]) tw mv k (by rw [← hr]; simp) (by simp at hk; omega)
    rw [r06_airport_L2_succ]
    refine stT (decT (by omega)) ?_
    rw [hw]
    simp only [hat, apcv, optO_s, asI_i, asB_b, asS_s, asL_l, asA_a, asT_t, get0, get1, get2, get3, chkO_t, cond_true, cond_false, List.length_cons, List.length_nil, Nat.zero_add, Nat.reduceAdd, Nat.reduceBEq, beq_self_eq_true, isCell_str, isCell_int, get4, List.any_cons]
    cases tw with
    | true =>
      simp only [cond_true, Bool.true_or]
      cases mv with
      | true =>
        simp only [cond_true, Bool.true_or]
        rw [ih]; simp
      | false =>
        simp only [cond_false, Bool.false_or]
        cases hc : (y.city == x.city) with
        | true =>
          simp only [cond_true, Bool.true_and]
          rw [ih]; simp
        | false =>
          simp only [cond_false, Bool.false_and, Bool.false_or]
          rw [ih]; simp
    | false =>
      simp only [cond_false, Bool.false_or]
      cases mv with
      | true =>
        simp only [cond_true, Bool.true_or]
        rw [ih]; simp
      | false =>
        simp only [cond_false, Bool.false_or]
        cases hc : (y.city == x.city) with
        | true =>
          simp only [cond_true, Bool.true_and]
          rw [ih]
        | false =>
          simp only [cond_false, Bool.false_and, Bool.false_or]
          rw [ih]; simp
theorem air_J5 (n : Nat) (aairn1 : Bool) (aair2 : List (List CV)) (adisn3 : Bool) (adis4 : List (List CV)) (b5 : Int) (b79 : Bool) (b80 : Bool) (i81 : Int) (c6 : List CV) (x7 : CV) (x9 : CV) (x10 : CV) (x11 : CV) (x12 : CV) (E : List Int) (hE : E.length ≤ 1000) (z : Int) (h : C lb n F_r05_Check [.agg [x11, x12]] = some (.int .i64 z)) :
    r06_airport_J5 lb n aairn1 aair2 adisn3 adis4 b5 b79 b80 i81 c6 x7 x9 x10 x11 x12 E.isEmpty (E.map ienc) = some (.list (E ++ if z != 0 then [z] else []).isEmpty ((E ++ if z != 0 then [z] else []).map ienc)) := by
  rw [r06_airport_J5_eq]
  refine stO _ h (stO _ rfl ?_)
  simp only [isCell_int, chkO_t]
  exact acc_ift (enc := ienc) (z != 0) E z 8 (by decide) (by omega) (fun b l => some (.list b l))
theorem air_J3 (n : Nat) (aairn1 : Bool) (aair2 : List (List CV)) (adisn3 : Bool) (adis4 : List (List CV)) (b5 : Int) (b15 : Bool) (l17 : List (List CV)) (c6 : List CV) (x7 : CV) (x9 : CV) (x10 : CV) (x11 : CV) (x12 : CV) (b79 : Bool) (b80 : Bool) (i81 : Int) (E : List Int) (hE : E.length ≤ 10) (hb : b15 = E.isEmpty) (hl : l17 = E.map ienc) (z : Int) (h : C lb n F_r05_Check [.agg [x11, x12]] = some (.int .i64 z)) :
    r06_airport_J3 lb n aairn1 aair2 adisn3 adis4 b5 b15 l17 c6 x7 x9 x10 x11 x12 b79 b80 i81 = some (.list (((E ++ if b79 then [6] else []) ++ if b80 then [8] else []) ++ if z != 0 then [z] else []).isEmpty ((((E ++ if b79 then [6] else []) ++ if b80 then [8] else []) ++ if z != 0 then [z] else []).map ienc)) := by
  subst hb; subst hl
  have o : ∀ (c : Bool) (e : Int), (if c then [e] else [] : List Int).length ≤ 1 := fun c e => by cases c <;> simp
  rw [r06_airport_J3_eq]
  refine (acc_ift (enc := ienc) b79 E 6 8 (by decide) (by omega) _).trans ?_
  have hl1 : (E ++ if b79 then [6] else []).length ≤ 11 := by rw [List.length_append]; have := o b79 6; omega
  generalize (E ++ if b79 then [6] else []) = E1 at hl1
  rw [r06_airport_J4_eq]
  refine (acc_ift (enc := ienc) b80 E1 8 8 (by decide) (by omega) _).trans ?_
  have hl2 : (E1 ++ if b80 then [8] else []).length ≤ 12 := by rw [List.length_append]; have := o b80 8; omega
  generalize (E1 ++ if b80 then [8] else []) = E2 at hl2
  exact air_J5 lb (hE := by omega) (h := h) ..
theorem r06_airport_ret (p : Pc) (q t : List Ap) (x : Ap) (h : q ++ x :: t = p.aps) (hl : p.aps.length ≤ 1000) (h1 : x.code.length ≤ 281474976710656) (h2 : x.city.length ≤ 281474976710656) (h3 : x.ctry.length ≤ 281474976710656) :
    Ret lb F_r06_airport [pcv p, .int .i64 (q.length : Int)] (.list (airE q x).isEmpty ((airE q x).map ienc)) := by
  have hat : atL (p.aps.map apcv) (q.length : Int) = some (apcv x) := atL_ok (by rw [← h]; simp)
  have hpl : p.aps.length = q.length + (t.length + 1) := by rw [← h]; simp
  refine .top rfl (Evt.imp2 (Evt.imp2 (Evt.imp2 (r01_Airport_ret lb x.code h1) (r01_Airport_ret lb x.city h2) fun n a b => And.intro a b) (r01_Country_ret lb x.ctry h3) fun n a b => And.intro a b) (Evt.and (r05_Check_ret lb x.off x.sn x.sh) (Evt.ge (q.length + 1))) fun n hc hz => ?_)
  obtain ⟨⟨a1, a2⟩, a3⟩ := hc
  obtain ⟨hz, hn⟩ := hz
  rw [r06_airport_eq]
  refine stO _ hat (stC rfl (stO _ rfl (stO _ rfl (stO _ rfl (stO _ rfl (stO _ rfl (stO _ a1 (stO _ rfl ?_))))))))
  have fin : ∀ (E : List Int), E.length ≤ 10 → r06_airport_J1 lb n p.an (p.aps.map apcv) p.dn (p.dis.map dicv) (q.length : Int) (apcv x) (.str x.code) (.str x.city) (.str x.ctry) (.int .i64 x.off) (.list x.sn (x.sh.map shcv)) E.isEmpty (E.map ienc) =
      some (.list (((E ++ if q.any (fun y => y.code == x.code) then [6] else []) ++ if q.any (fun y => y.city == x.city && !(y.ctry == x.ctry)) then [8] else []) ++ if zoneE x.off x.sh != 0 then [zoneE x.off x.sh] else []).isEmpty
        ((((E ++ if q.any (fun y => y.code == x.code) then [6] else []) ++ if q.any (fun y => y.city == x.city && !(y.ctry == x.ctry)) then [8] else []) ++ if zoneE x.off x.sh != 0 then [zoneE x.off x.sh] else []).map ienc)) := by
    intro E hE
    rw [r06_airport_J1_eq]
    refine (air_L2 lb n p q t x h hl _ _ _ _ _ q [] false false n rfl (by omega)).trans ?_
    rw [Bool.false_or, Bool.false_or]
    exact air_J3 lb (hE := hE) (hb := rfl) (hl := rfl) (h := hz) ..
  unfold airE
  cases airportB x.code with
  | false => exact stT rfl (fin [5] (by simp))
  | true =>
    refine stF rfl (stO _ a2 (stO _ rfl ?_))
    cases airportB x.city with
    | false => exact stT rfl (fin [5] (by simp))
    | true =>
      refine stF rfl (stO _ a3 (stO _ rfl ?_))
      cases countryB x.ctry with
      | false => exact stT rfl (fin [5] (by simp))
      | true => exact stF rfl (fin [] (by simp))
end Go.Proofs
