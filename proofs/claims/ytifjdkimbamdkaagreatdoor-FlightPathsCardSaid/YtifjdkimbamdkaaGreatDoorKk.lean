/- Chapter 7: the laws FlightChecks and FlightLegs on plain data. Conditions: as each says. -/
import Derived.Test.YtifjdkimbamdkaaGreatDoorKj
import Derived.Test.YtifjdkimbamdkaaGreatDoorGe
import Derived.Test.YtifjdkimbamdkaaGreatDoorW07
set_option linter.unusedSimpArgs false
namespace Go.Proofs
open Go.Am
variable (lb : Bool)
/-- what is known of places and of a flight that came in -/
def ArgP (p : Pc) : Prop := p.aps.length ≤ 281474976710656 ∧ p.dis.length ≤ 281474976710656 ∧ ∀ a ∈ p.aps, a.code.length ≤ 281474976710656 ∧ a.city.length ≤ 281474976710656 ∧ a.ctry.length ≤ 281474976710656
def ArgF (f : Fl) : Prop := f.car.length ≤ 281474976710656 ∧ f.legs.length ≤ 281474976710656 ∧ ∀ x ∈ f.legs, lgLen x ≤ 1000000000000000
theorem big_ret (p : Pc) (f : Fl) (hp : ArgP p) (hf : ArgF f) : Ret lb F_r07_Big [pcv p, flcv f] (.bool (bigB p f)) := r07_Big_ret lb p f hf.1 hf.2.2 hf.2.1 hp.1 hp.2.1
theorem lst_len (F : List Ft) : (((F.map ftenc).length : Int) == 0) = F.isEmpty := by cases F with
  | nil => rfl
  | cons e F => exact beqF (by simp; omega)
theorem lst_pos (F : List Ft) : decide (((F.map ftenc).length : Int) > 0) = !F.isEmpty := by cases F with
  | nil => rfl
  | cons e F => exact decT (by simp)
theorem sameFaults_ret (F : List Ft) (hF : F.length ≤ 100000) : Ret lb F_r07_SameFaults [lstFt F, lstFt F] (.bool true) := by
  refine .top rfl (.eq (fun n => by rw [lstFt, r07_SameFaults_eq, bneF rfl, cond_false]) ?_)
  refine Evt.diag (m := F.length) (loopL (enc := ftenc) (l := F) (by omega) (P := fun q t n k => r07_SameFaults_L1 lb n k F.isEmpty (F.map ftenc) F.isEmpty (F.map ftenc) (q.length : Int) = some (.bool true)) ?_ ?_ F [] rfl)
  · refine .all fun n k => ?_
    rw [r07_SameFaults_L1_succ]
    refine stF (decF (by simp)) ?_
    rw [r07_SameFaults_J2_eq]
  · intro q x t hq hlt hat hw hev
    refine hev.mono fun n hn k hk => ?_
    have hn := hn k hk
    rw [r07_SameFaults_L1_succ]
    refine stT (decT hlt) (stO _ hat (stC rfl (stO _ rfl (stO _ rfl (stO _ hat (stC rfl (stO _ rfl (stO _ rfl (stO _ rfl (stO _ rfl (stO _ rfl (stO _ rfl (stF (by simp) ?_)))))))))))))
    rw [hw]
    exact hn
theorem flightChecks_ok (p : Pc) (f : Fl) (hp : ArgP p) (hf : ArgF f) : Ret lb F_l07_FlightChecks [pcv p, flcv f] (.bool true) := by
  cases hB : bigB p f with
  | true =>
    refine .top rfl (Evt.imp2 (big_ret lb p f hp hf) (awake07_ok lb) fun n h1 h2 => ?_)
    rw [l07_FlightChecks_eq]
    exact stO _ h1 (stO _ rfl (stT hB (stO _ h2 rfl)))
  | false =>
    obtain ⟨b1, b2, b3, b4, b5⟩ := bigB_false hB
    have hP := r06_Check_ret lb p (by omega) (by omega) hp.2.2
    cases hF : (placesF p).isEmpty with
    | false =>
      refine .top rfl (Evt.imp2 (Evt.imp2 (big_ret lb p f hp hf) hP fun n a b => And.intro a b) (awake07_ok lb) fun n h1 h2 => ?_)
      rw [l07_FlightChecks_eq]
      refine stO _ h1.1 (stO _ rfl (stF hB (stO _ h1.2 (stO _ rfl ?_))))
      exact stT (by rw [lst_pos, hF]; rfl) (stO _ h2 rfl)
    | true =>
      have hS := placesF_shifts (p := p) (by omega) (by simpa using hF)
      have c1 := flight_Check_ret lb p hS f (by omega) (fun x hx => by have := b2 x hx; omega)
      have c2 := r07_Check_ret lb p hS f (by omega) (fun x hx => by have := b2 x hx; omega)
      have c3 := sameFaults_ret lb (checkF p f) (by
        unfold checkF
        have hg := headG_len f
        split
        · unfold headF; rw [List.length_append]; have := ft_le (decide ((f.legs.length : Int) < 1) || decide ((f.legs.length : Int) > 6)) (4, wLegs); omega
        · split
          · have : ∀ (D : List Int), (dayFt p f.legs D).length ≤ 1 := by
              intro D
              induction D with
              | nil => simp [dayFt]
              | cons d D ih => unfold dayFt; split <;> simp [ih]
            have := this (daysF f.fr f.to f.days); omega
          · rw [List.length_append]; have := legsFt_len p f.legs []; omega)
      refine .top rfl (Evt.imp2 (Evt.imp2 (Evt.imp2 (big_ret lb p f hp hf) hP fun n a b => And.intro a b) (awake07_ok lb) fun n a b => And.intro a b) (Evt.imp2 (Evt.imp2 c1 c2 fun n a b => And.intro a b) c3 fun n a b => And.intro a b) fun n h1 h2 => ?_)
      obtain ⟨⟨a1, a2⟩, a3⟩ := h1
      obtain ⟨⟨a4, a5⟩, a6⟩ := h2
      rw [l07_FlightChecks_eq]
      refine stO _ a1 (stO _ rfl (stF hB (stO _ a2 (stO _ rfl ?_))))
      exact stF (by rw [lst_pos, hF]; rfl) (stO _ a4 (stO _ a5 (stO _ a6 (stO _ rfl (stT rfl (stO _ a3 rfl))))))
/-! valid places and flights -/
def rightB (p : Pc) (f : Fl) : Bool := !bigB p f && ((placesF p).isEmpty && (checkF p f).isEmpty)
theorem l07_right_ret (p : Pc) (f : Fl) (hp : ArgP p) (hf : ArgF f) : Ret lb F_l07_right [pcv p, flcv f] (.bool (rightB p f)) := by
  unfold rightB
  cases hB : bigB p f with
  | true =>
    refine .top rfl ((big_ret lb p f hp hf).mono fun n h1 => ?_)
    rw [l07_right_eq]
    exact stO _ h1 (stO _ rfl (stF (by rw [hB]; rfl) rfl))
  | false =>
    obtain ⟨b1, b2, b3, b4, b5⟩ := bigB_false hB
    have hP := r06_Check_ret lb p (by omega) (by omega) hp.2.2
    cases hF : (placesF p).isEmpty with
    | false =>
      refine .top rfl (Evt.imp2 (big_ret lb p f hp hf) hP fun n h1 h2 => ?_)
      rw [l07_right_eq]
      refine stO _ h1 (stO _ rfl (stT (by rw [hB]; rfl) (stO _ h2 (stO _ rfl ?_))))
      exact stF ((lst_len _).trans hF) rfl
    | true =>
      have hS := placesF_shifts (p := p) (by omega) (by simpa using hF)
      have c2 := r07_Check_ret lb p hS f (by omega) (fun x hx => by have := b2 x hx; omega)
      refine .top rfl (Evt.imp2 (Evt.imp2 (big_ret lb p f hp hf) hP fun n a b => And.intro a b) c2 fun n h1 h2 => ?_)
      rw [l07_right_eq]
      refine stO _ h1.1 (stO _ rfl (stT (by rw [hB]; rfl) (stO _ h1.2 (stO _ rfl ?_))))
      refine stT ((lst_len _).trans hF) (stO _ h2 (stO _ rfl ?_))
      rw [lst_len]
      rfl
theorem rightB_true {p : Pc} {f : Fl} (h : rightB p f = true) : (f.car.length ≤ 400 ∧ (∀ x ∈ f.legs, x.fro.length ≤ 400 ∧ x.to.length ≤ 400 ∧ x.eq.length ≤ 400) ∧ f.legs.length ≤ 12 ∧ p.aps.length ≤ 20 ∧ p.dis.length ≤ 40) ∧ Shifts p ∧ checkF p f = [] := by
  unfold rightB at h
  simp only [Bool.and_eq_true, Bool.not_eq_true', List.isEmpty_iff] at h
  have hB := bigB_false h.1
  exact ⟨hB, placesF_shifts (by have := hB.2.2.2.1; omega) h.2.1, h.2.2⟩

/-! FlightLegs -/
theorem fl_L3 (n : Nat) (aairn1 : Bool) (aair2 : List (List CV)) (adisn3 : Bool) (adis4 : List (List CV)) (bcar5 : List UInt8) (bnum6 : Int) (bperfro7 : Int) (bperto9 : Int) (bperday10 : Int) (blegn11 : Bool) (bleg12 : List (List CV)) (c13 : Int) (x20 : CV) (x22 : CV) (x25 : CV) (x27 : CV) (x30 : CV) (x33 : CV) (x36 : CV) (x38 : CV) (i161 : Int) (r18 : CV) (r23 : CV) (r28 : CV) (r34 : CV) (l : List Sg) (hl : l.length ≤ 10000) (b0 b1 : Bool) (h30 : x30 = .list b0 (l.map sgcv)) (h36 : x36 = .list b1 (l.map sgcv)) : ∀ (t q : List Sg) (k : Nat), q ++ t = l → t.length < k →
    l07_FlightLegs_L3 lb n k aairn1 aair2 adisn3 adis4 bcar5 bnum6 bperfro7 bperto9 bperday10 blegn11 bleg12 c13 x20 x22 x25 x27 x30 x33 x36 x38 i161 r18 r23 r28 r34 (q.length : Int) = l07_FlightLegs_J4 lb n aairn1 aair2 adisn3 adis4 bcar5 bnum6 bperfro7 bperto9 bperday10 blegn11 bleg12 c13 x20 x22 x25 x27 x30 x33 x36 x38 i161 r18 r23 r28 r34 (l.length : Int) := by
  subst h30; subst h36
  intro t
  induction t with
  | nil =>
    intro q k hq hk
    obtain ⟨k, rfl⟩ : ∃ m, k = m + 1 := ⟨k - 1, by simp at hk; omega⟩
    have hq : q = l := by simpa using hq
    subst hq
    rw [l07_FlightLegs_L3_succ]
    exact stO _ rfl (stF (decF (by simp)) rfl)
  | cons x t ih =>
    intro q k hq hk
    obtain ⟨k, rfl⟩ : ∃ m, k = m + 1 := ⟨k - 1, by simp at hk; omega⟩
    have hll : l.length = q.length + (t.length + 1) := by rw [← hq]; simp
    have hat : atL (l.map sgcv) (q.length : Int) = some (sgcv x) := atL_ok (by rw [← hq]; simp)
    rw [l07_FlightLegs_L3_succ]
    refine stO _ rfl (stT (decT (by simp only [List.length_map]; omega)) (stO _ rfl (stO _ hat (stC rfl (stO _ rfl (stO _ rfl (stO _ rfl (stO _ rfl (stO _ rfl (stO _ rfl (stO _ rfl (stO _ rfl (stO _ hat (stC rfl (stO _ rfl (stO _ rfl (stO _ rfl (stO _ rfl (stO _ rfl (stO _ rfl (stO _ rfl
      (stO _ rfl (stO _ rfl (stO _ rfl (stO _ rfl (stO _ rfl (stO _ rfl (stO _ rfl (stO _ rfl (stO _ rfl (stO _ rfl (stO _ rfl (stO _ rfl (stO _ rfl (stO _ rfl (stF (by simp) ?_))))))))))))))))))))))))))))))))))))
    rw [wrap64 (by omega) (by omega), show (q.length : Int) + 1 = ((q ++ [x]).length : Int) by simp]
    exact ih (q ++ [x]) k (by rw [← hq]; simp) (by simp at hk; omega)
theorem fl_L1 (n : Nat) (aairn1 : Bool) (aair2 : List (List CV)) (adisn3 : Bool) (adis4 : List (List CV)) (bcar5 : List UInt8) (bnum6 : Int) (bperfro7 : Int) (bperto9 : Int) (bperday10 : Int) (blegn11 : Bool) (bleg12 : List (List CV)) (c13 : Int) (x20 : CV) (x22 : CV) (x25 : CV) (x27 : CV) (x30 : CV) (x33 : CV) (x36 : CV) (x38 : CV) (r18 : CV) (r23 : CV) (r28 : CV) (r34 : CV) (l : List Dt) (hl : l.length ≤ 10000) (b0 b1 : Bool) (h20 : x20 = .list b0 (l.map dtcv)) (h25 : x25 = .list b1 (l.map dtcv)) : ∀ (t q : List Dt) (k : Nat), q ++ t = l → t.length < k →
    l07_FlightLegs_L1 lb n k aairn1 aair2 adisn3 adis4 bcar5 bnum6 bperfro7 bperto9 bperday10 blegn11 bleg12 c13 x20 x22 x25 x27 x30 x33 x36 x38 r18 r23 r28 r34 (q.length : Int) = l07_FlightLegs_J2 lb n aairn1 aair2 adisn3 adis4 bcar5 bnum6 bperfro7 bperto9 bperday10 blegn11 bleg12 c13 x20 x22 x25 x27 x30 x33 x36 x38 r18 r23 r28 r34 (l.length : Int) := by
  subst h20; subst h25
  intro t
  induction t with
  | nil =>
    intro q k hq hk
    obtain ⟨k, rfl⟩ : ∃ m, k = m + 1 := ⟨k - 1, by simp at hk; omega⟩
    have hq : q = l := by simpa using hq
    subst hq
    rw [l07_FlightLegs_L1_succ]
    exact stO _ rfl (stF (decF (by simp)) rfl)
  | cons x t ih =>
    intro q k hq hk
    obtain ⟨k, rfl⟩ : ∃ m, k = m + 1 := ⟨k - 1, by simp at hk; omega⟩
    have hll : l.length = q.length + (t.length + 1) := by rw [← hq]; simp
    have hat : atL (l.map dtcv) (q.length : Int) = some (dtcv x) := atL_ok (by rw [← hq]; simp)
    rw [l07_FlightLegs_L1_succ]
    refine stO _ rfl (stT (decT (by simp only [List.length_map]; omega)) (stO _ rfl (stO _ hat (stC rfl (stO _ rfl (stO _ rfl (stO _ rfl (stO _ rfl (stO _ rfl (stO _ rfl (stO _ rfl (stO _ rfl (stO _ rfl (stO _ hat (stC rfl (stO _ rfl (stO _ rfl (stO _ rfl (stO _ rfl (stO _ rfl (stO _ rfl (stO _ rfl (stO _ rfl
      (stO _ rfl (stO _ rfl (stO _ rfl (stO _ rfl (stO _ rfl (stO _ rfl (stO _ rfl (stO _ rfl (stO _ rfl (stO _ rfl (stO _ rfl (stO _ rfl (stO _ rfl (stO _ rfl (stO _ rfl (stO _ rfl (stF (by simp) ?_))))))))))))))))))))))))))))))))))))))))
    rw [wrap64 (by omega) (by omega), show (q.length : Int) + 1 = ((q ++ [x]).length : Int) by simp]
    exact ih (q ++ [x]) k (by rw [← hq]; simp) (by simp at hk; omega)
theorem flightLegs_ok (p : Pc) (f : Fl) (day : Int) (hp : ArgP p) (hf : ArgF f) : Ret lb F_l07_FlightLegs [pcv p, flcv f, .int .i64 day] (.bool true) := by
  cases hR : rightB p f with
  | false =>
    refine .top rfl (Evt.imp2 (l07_right_ret lb p f hp hf) (awake07_ok lb) fun n h1 h2 => ?_)
    rw [l07_FlightLegs_eq]
    exact stO _ h1 (stO _ rfl (stT (by rw [hR]; rfl) (stO _ h2 rfl)))
  | true =>
    obtain ⟨⟨b1, b2, b3, b4, b5⟩, hS, hC⟩ := rightB_true hR
    have c1 := flight_Legs_ret lb p hS f (by omega) day
    have c2 := r07_Legs_ret lb p hS f (by omega) day
    have c3 := flight_Segs_ret lb p hS f (by omega) day
    have c4 := r07_Segs_ret lb p hS f (by omega) day
    refine .top rfl (Evt.imp2 (Evt.imp2 (Evt.imp2 (l07_right_ret lb p f hp hf) (awake07_ok lb) fun n a b => And.intro a b) (Evt.ge 100000) fun n a b => And.intro a b) (Evt.imp2 (Evt.imp2 c1 c2 fun n a b => And.intro a b) (Evt.imp2 c3 c4 fun n a b => And.intro a b) fun n a b => And.intro a b) fun n h1 h2 => ?_)
    obtain ⟨⟨a1, a2⟩, a0⟩ := h1
    obtain ⟨⟨a3, a4⟩, a5, a6⟩ := h2
    rw [l07_FlightLegs_eq]
    refine stO _ a1 (stO _ rfl (stF (by rw [hR]; rfl) (stO _ a3 ?_)))
    unfold segsR at a5 a6
    have hl1 : (legsF p f day).length ≤ 12 := by rw [legsF_len]; exact b3
    cases hh : hasF f.fr f.to f.days day with
    | false =>
      rw [hh] at a4 a5 a6
      refine stO _ rfl (stO _ rfl (stO _ rfl (stO _ rfl (stO _ a4 (stO _ rfl (stO _ rfl (stO _ rfl (stO _ rfl (stO _ a5 (stO _ rfl (stO _ rfl (stO _ rfl (stO _ rfl (stO _ a6 (stO _ rfl (stO _ rfl (stO _ rfl (stO _ rfl (stO _ rfl (stO _ rfl (stF rfl (stO _ rfl (stO _ rfl (stF rfl (stO _ rfl (stO _ rfl (stF rfl (stO _ rfl (stO _ rfl (stF rfl ?_))))))))))))))))))))))))))))))
      refine (fl_L1 lb _ _ _ _ _ _ _ _ _ _ _ _ _ _ _ _ _ _ _ _ _ _ _ _ _ [] (by simp) true true rfl rfl [] [] n rfl (by simp; omega)).trans ?_
      rw [l07_FlightLegs_J2_eq]
      refine (fl_L3 lb _ _ _ _ _ _ _ _ _ _ _ _ _ _ _ _ _ _ _ _ _ _ _ _ _ _ [] (by simp) true true rfl rfl [] [] n rfl (by simp; omega)).trans ?_
      rw [l07_FlightLegs_J4_eq]
      exact stO _ a2 rfl
    | true =>
      rw [hh] at a4 a5 a6
      have hl2 := segsF_len (legsF p f day)
      have hl3 : (legsF p f day).length * (legsF p f day).length ≤ 12 * 12 := Nat.mul_le_mul hl1 hl1
      refine stO _ rfl (stO _ rfl (stO _ rfl (stO _ rfl (stO _ a4 (stO _ rfl (stO _ rfl (stO _ rfl (stO _ rfl (stO _ a5 (stO _ rfl (stO _ rfl (stO _ rfl (stO _ rfl (stO _ a6 (stO _ rfl (stO _ rfl (stO _ rfl (stO _ rfl (stO _ rfl (stO _ rfl (stF rfl (stO _ rfl (stO _ rfl (stF rfl (stO _ rfl (stO _ rfl (stF (bneF rfl) (stO _ rfl (stO _ rfl (stF (bneF rfl) ?_))))))))))))))))))))))))))))))
      refine (fl_L1 lb _ _ _ _ _ _ _ _ _ _ _ _ _ _ _ _ _ _ _ _ _ _ _ _ _ (legsF p f day) (by omega) _ _ rfl rfl (legsF p f day) [] n rfl (by omega)).trans ?_
      rw [l07_FlightLegs_J2_eq]
      refine (fl_L3 lb _ _ _ _ _ _ _ _ _ _ _ _ _ _ _ _ _ _ _ _ _ _ _ _ _ _ (segsF (legsF p f day)) (by omega) _ _ rfl rfl (segsF (legsF p f day)) [] n rfl (by omega)).trans ?_
      rw [l07_FlightLegs_J4_eq]
      exact stO _ a2 rfl
end Go.Proofs
