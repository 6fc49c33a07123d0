/- Chapter 7 on plain data: Check by the program. Conditions: as each says. -/
import Derived.Test.YtifjdkimbamdkaaGreatDoorKf
set_option linter.unusedSimpArgs false
namespace Go.Proofs
open Go.Am
variable (lb : Bool)
theorem fc_inner (p : Pc) (f : Fl) (v22 : CV) (i : Nat) (hi : i ≤ 100) (E : List Int) (hE : E.length ≤ 1000) (F : List Ft) (hF : F.length ≤ 10000) (r : CV) :
    ∀ u q, q ++ u = E → Evt fun n => ∀ j k, u.length < j →
      flight_Check_L4 lb n k p.an (p.aps.map apcv) p.dn (p.dis.map dicv) f.car f.num f.fr f.to f.days f.ln (f.legs.map lgcv) v22 (IntKind.wrap .i64 ((i : Int) + 1)) (F ++ E.map fun e => (e, wLeg ++ Lib.itoa (i : Int))).isEmpty ((F ++ E.map fun e => (e, wLeg ++ Lib.itoa (i : Int))).map ftenc) = some r →
      flight_Check_L5 lb n j k p.an (p.aps.map apcv) p.dn (p.dis.map dicv) f.car f.num f.fr f.to f.days f.ln (f.legs.map lgcv) v22 (i : Int) (.list E.isEmpty (E.map ienc)) (E.isEmpty, E.map ienc) (q.length : Int) (F ++ q.map fun e => (e, wLeg ++ Lib.itoa (i : Int))).isEmpty ((F ++ q.map fun e => (e, wLeg ++ Lib.itoa (i : Int))).map ftenc) = some r
  | [], q, h => .all fun n j k hj hr => by
    obtain ⟨j, rfl⟩ : ∃ m, j = m + 1 := ⟨j - 1, by simp at hj; omega⟩
    have h : q = E := by simpa using h
    subst h
    rw [flight_Check_L5_succ]
    refine stF (decF (by simp)) ?_
    rw [flight_Check_J6_eq]
    exact hr
  | e :: u, q, h => by
    have hq : E.length = q.length + (u.length + 1) := by rw [← h]; simp
    have hat : atL (E.map ienc) (q.length : Int) = some (ienc e) := atL_ok (by rw [← h]; simp)
    have hil := itoa_len (z := (i : Int)) (by omega) (by omega)
    refine (Evt.imp2 (fc_inner p f v22 i hi E hE F hF r u (q ++ [e]) (by rw [← h]; simp)) (text_Decimal_ret lb (i : Int) (by omega) (by omega)) fun n h1 h2 => ?_)
    intro j k hj hr
    obtain ⟨j, rfl⟩ : ∃ m, j = m + 1 := ⟨j - 1, by simp at hj; omega⟩
    have h1 := h1 j k (by simp at hj; omega) hr
    rw [flight_Check_L5_succ]
    refine stT (decT (by simp; omega)) (stO _ rfl (stO _ hat (stC rfl (stO _ rfl (stO _ h2 (stO _ rfl (stC (decT (by simp; omega)) (stC rfl (stC (room_le (by simp; omega) (by omega)) ?_)))))))))
    rw [wrap64 (by omega) (by omega), show (q.length : Int) + 1 = ((q ++ [e]).length : Int) by simp, snoc_nil (F ++ q.map fun e => (e, wLeg ++ Lib.itoa (i : Int))) (e, wLeg ++ Lib.itoa (i : Int))]
    simpa [List.map_append, List.append_assoc, ftenc, wLeg] using h1
theorem fc_day (d : Int) (f : Fl) (p : Pc) (hp : Shifts p) (hl : f.legs.length ≤ 1000) (h : 0 ≤ d ∧ d < 36525) : Evt fun n => C lb n F_flight_ordered [pcv p, .list f.ln (f.legs.map lgcv), .int .i64 d] = some (.bool (ordF p f.legs d)) ∧ C lb n F_calendar_Print [.int .i64 d] = some (.str (dateS d)) :=
  Evt.and (flight_ordered_ret lb p hp f.ln f.legs hl d) (calendar_Print_ret lb d h.1 h.2)
theorem fc_days (p : Pc) (hp : Shifts p) (f : Fl) (hl : f.legs.length ≤ 1000) (v22 : CV) (b0 : Bool) (D : List Int) (hD : D.length ≤ 800) (hd : ∀ d ∈ D, 0 ≤ d ∧ d < 36525) :
    Evt fun n => flight_Check_L8 lb n n p.an (p.aps.map apcv) p.dn (p.dis.map dicv) f.car f.num f.fr f.to f.days f.ln (f.legs.map lgcv) v22 (.list b0 (dcv D)) (b0, dcv D) true [] 0 = some (lstFt (dayFt p f.legs D)) := by
  refine Evt.diag (m := D.length) (loopL (enc := ienc) (l := D) (by omega) (P := fun q t n k => flight_Check_L8 lb n k p.an (p.aps.map apcv) p.dn (p.dis.map dicv) f.car f.num f.fr f.to f.days f.ln (f.legs.map lgcv) v22 (.list b0 (dcv D)) (b0, dcv D) true [] (q.length : Int) = some (lstFt (dayFt p f.legs t))) ?_ ?_ D [] rfl)
  · refine .all fun n k => ?_
    rw [flight_Check_L8_succ]
    refine stF (decF (by simp [dcv])) ?_
    rw [flight_Check_J10_eq]
    rfl
  · intro q d t hq hlt hat hw hev
    refine Evt.imp2 hev (fc_day lb d f p hp hl (hd d (by rw [← hq]; simp))) fun n hn hc k hk => ?_
    have hn := hn k hk
    obtain ⟨c1, c2⟩ := hc
    have hat : atL (dcv D) (q.length : Int) = some [.int .i64 d] := hat
    have hlt : (q.length : Int) < ((dcv D).length : Int) := hlt
    rw [flight_Check_L8_succ]
    refine stT (decT hlt) (stO _ rfl (stO _ hat (stC rfl (stO _ rfl (stO _ c1 (stO _ rfl ?_))))))
    unfold dayFt
    cases ho : ordF p f.legs d with
    | true =>
      rw [hw]
      exact hn
    | false =>
      refine stT rfl (stO _ c2 (stO _ rfl (stC (decT (by rw [dateS_len]; decide)) (stC rfl ?_))))
      rw [flight_Check_J9_eq]
      rfl
theorem fc_loop (p : Pc) (hp : Shifts p) (f : Fl) (hl : f.legs.length ≤ 6) (hx : ∀ x ∈ f.legs, x.eq.length ≤ 1000) (v22 : CV) (H : List Ft) (hH : H.length ≤ 10) :
    Evt fun n => flight_Check_L4 lb n n p.an (p.aps.map apcv) p.dn (p.dis.map dicv) f.car f.num f.fr f.to f.days f.ln (f.legs.map lgcv) v22 0 H.isEmpty (H.map ftenc) = some (lstFt (if H ++ legsFt p [] f.legs = [] then dayFt p f.legs (daysF f.fr f.to f.days) else H ++ legsFt p [] f.legs)) := by
  have key := loopL (enc := lgcv) (l := f.legs) (by omega) (P := fun q t n k => flight_Check_L4 lb n k p.an (p.aps.map apcv) p.dn (p.dis.map dicv) f.car f.num f.fr f.to f.days f.ln (f.legs.map lgcv) v22 (q.length : Int) (H ++ legsFt p [] q).isEmpty ((H ++ legsFt p [] q).map ftenc) =
      some (lstFt (if H ++ legsFt p [] f.legs = [] then dayFt p f.legs (daysF f.fr f.to f.days) else H ++ legsFt p [] f.legs))) (by
    refine Evt.imp2 (period_Days_ret lb f.fr f.to f.days) (fc_days lb p hp f (by omega) v22 (daysF f.fr f.to f.days).isEmpty (daysF f.fr f.to f.days) (daysF_len _ _ _) fun d hd => ⟨(daysF_mem hd).1, (daysF_mem hd).2.1⟩) fun n h1 h2 k => ?_
    rw [flight_Check_L4_succ]
    refine stF (decF (by simp)) ?_
    rw [flight_Check_J7_eq]
    generalize H ++ legsFt p [] f.legs = F
    cases F with
    | nil =>
      rw [if_pos rfl]
      exact stF rfl (stO _ h1 (stO _ rfl h2))
    | cons e F =>
      rw [if_neg (by simp)]
      exact stT (decT (by simp)) rfl) (by
    intro q x t hq hlt hat hw hev
    have hll : f.legs.length = q.length + (t.length + 1) := by rw [← hq]; simp
    have hF : (H ++ legsFt p [] q).length ≤ 100 := by rw [List.length_append]; have := legsFt_len p q []; omega
    have inner := fc_inner lb p f v22 q.length (by omega) (legE p q x) (by have := legE_len p q x; omega) (H ++ legsFt p [] q) (by omega) (lstFt (if H ++ legsFt p [] f.legs = [] then dayFt p f.legs (daysF f.fr f.to f.days) else H ++ legsFt p [] f.legs)) (legE p q x) [] rfl
    refine Evt.imp2 hev (Evt.imp2 (inner.and (Evt.ge 5)) (flight_leg_ret lb p hp f.ln f.legs q t x hq (by omega) (hx x (by rw [← hq]; simp))) fun n a b => And.intro a b) fun n hn hc k hk => ?_
    obtain ⟨⟨a1, a2⟩, a3⟩ := hc
    have hn := hn k hk
    have hlE := legE_len p q x
    rw [flight_Check_L4_succ]
    refine stT (decT hlt) (stO _ a3 (stO _ rfl ?_))
    rw [legsFt_snoc, ← List.append_assoc] at hn
    have a1 := a1 n k (by omega) (by rw [hw]; exact hn)
    simpa using a1) f.legs [] rfl
  refine (Evt.diag key).mono fun n hn => ?_
  simpa [legsFt] using hn
theorem fc_J3 (p : Pc) (hp : Shifts p) (f : Fl) (hx : ∀ x ∈ f.legs, x.eq.length ≤ 1000) (v22 : CV) :
    Evt fun n => flight_Check_J3 lb n p.an (p.aps.map apcv) p.dn (p.dis.map dicv) f.car f.num f.fr f.to f.days f.ln (f.legs.map lgcv) v22 (headG f).isEmpty ((headG f).map ftenc) = some (lstFt (checkF p f)) := by
  have hg := headG_len f
  unfold checkF
  by_cases h : f.legs.length < 1 ∨ f.legs.length > 6
  · rw [if_pos h]
    refine .all fun n => ?_
    rw [flight_Check_J3_eq]
    have e : headF f = headG f ++ [(4, wLegs)] := by
      unfold headF
      rw [if_pos (by rw [Bool.or_eq_true, decide_eq_true_eq, decide_eq_true_eq]; omega)]
    rw [e]
    refine (bif_or _ _ _ _).trans (stT (by rw [Bool.or_eq_true, beq_iff_eq, decide_eq_true_eq, List.length_map]; omega) (stC (room_le (by simp; omega) (by omega)) ?_))
    rw [snoc_nil (headG f) (4, wLegs)]
    simp [lstFt, ftenc, wLegs]
  · rw [if_neg h]
    refine (fc_loop lb p hp f (by omega) hx v22 (headG f) (by omega)).mono fun n hn => ?_
    rw [flight_Check_J3_eq]
    refine stF (beqF (by rw [List.length_map]; omega)) (stF (decF (by rw [List.length_map]; omega)) ?_)
    exact hn
theorem flight_Check_ret (p : Pc) (hp : Shifts p) (f : Fl) (hc : f.car.length ≤ 1000) (hx : ∀ x ∈ f.legs, x.eq.length ≤ 1000) : Ret lb F_flight_Check [pcv p, flcv f] (lstFt (checkF p f)) := by
  refine .top rfl (Evt.imp2 (Evt.imp2 (text_Carrier_ret lb f.car (by omega)) (period_Check_ret lb f.fr f.to f.days) fun n a b => And.intro a b) (fc_J3 lb p hp f hx (.int .i64 (perE f.fr f.to f.days))) fun n hc h3 => ?_)
  obtain ⟨a1, a2⟩ := hc
  rw [flight_Check_eq]
  refine stO _ a1 (stO _ rfl ?_)
  refine (acc_if0 (enc := ftenc) (carrierB f.car) (5, wCarrier) _).trans ?_
  rw [flight_Check_J1_eq, bif_or]
  refine (acc_ift (enc := ftenc) _ _ (2, wNumber) 24 (by decide) (by have := ft_le' (carrierB f.car) (5, wCarrier); omega) _).trans ?_
  rw [flight_Check_J2_eq]
  refine stO _ a2 (stO _ rfl ?_)
  have e2 : (if decide (f.num < 1) || decide (f.num > 9999) then [(2, wNumber)] else []) = (if !(decide (f.num < 1) || decide (f.num > 9999)) then [] else [((2, wNumber) : Ft)]) := by
    cases (decide (f.num < 1) || decide (f.num > 9999)) <;> rfl
  rw [e2]
  simp only [isCell_int, chkO_t]
  refine (acc_ift (enc := ftenc) _ _ (perE f.fr f.to f.days, wPeriod) 24 (by decide) (by
    have := ft_le' (carrierB f.car) (5, wCarrier)
    have := ft_le' (!(decide (f.num < 1) || decide (f.num > 9999))) (2, wNumber)
    rw [List.length_append]; omega) _).trans ?_
  exact h3
end Go.Proofs
