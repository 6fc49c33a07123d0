/- Chapter 20 on plain data: the error of a part, by the program and by its reference. Conditions: as each says. -/
import Derived.Test.YtmandbflbfkagaaGreatDoorCc
import Derived.Test.YtmandbflbfkagaaGreatDoorHb
import Derived.Test.YtmandbflbfkagaaGreatDoorKA
set_option linter.unusedVariables false
set_option linter.unusedSimpArgs false
namespace Go.Proofs
open Go.Am
variable (lb : Nat)
def isl (k : Int) : Bool := (k == 2) || ((k == 3) || (k == 4))
def isp (k : Int) : Bool := (k == 5) || (k == 6)
def isc (k : Int) : Bool := (k == 11) || ((k == 13) || (k == 14))
def nums (k : Int) : Int := if k = 8 ∨ k = 12 then 2 else if k = 7 ∨ k = 9 ∨ k = 10 then 1 else 0
/-- a field is set that the kind does not use: A, B, the period, texts, conditions -/
def extraF (k : Int) (A B P T L : Bool) : Bool := ((!isl k) && L) || (((!isc k) && T) || (((!isp k) && P) || ((decide (nums k < 1) && A) || (decide (nums k < 2) && B))))
def perN (c : Cd) : Bool := !((c.fr == 0) && ((c.to == 0) && ((c.days == 0) && true)))
def extraB (c : Cd) : Bool := extraF c.k (c.a != 0) (c.b != 0) (perN c) (decide ((c.t.length : Int) > 0)) (decide ((c.l.length : Int) > 0))
def wrongB (c : Cd) : Bool :=
  if c.k = 2 ∨ c.k = 3 then decide (c.l.length = 0) else if c.k = 4 then decide (c.l.length ≠ 1) else if c.k = 7 then decide (c.a < 0 ∨ c.a ≥ 36525) else
  if c.k = 8 then decide (c.a < 0 ∨ c.a ≥ 1440 ∨ c.b < 0 ∨ c.b ≥ 1440) else if c.k = 9 ∨ c.k = 10 then decide (c.a < 0 ∨ c.a > 6) else
  if c.k = 12 then decide (c.a < 1 ∨ c.a > c.b ∨ c.b > 9999) else false
/-- is a text a code that a kind allows? -/
def codeK (k : Int) (s : Bs) : Bool := if k = 11 then carrierB s else if k = 13 then airportB s else paxB s
def codesE (c : Cd) : Int := if c.t = [] then 2 else codesF (codeK c.k) [] c.t
/-- the error of a part by itself -/
def partE (c : Cd) : Int :=
  if c.k < 1 ∨ c.k > 14 then 8 else if extraB c = true then 3 else if wrongB c = true then 2 else if isp c.k = true then perE c.fr c.to c.days else if isc c.k = true then codesE c else 0
def chain {β : Type} (r : Option β) : List Bool → Option β → Option β
  | [], x => x
  | b :: l, x => bif b then r else chain r l x
theorem chain_eq {β : Type} (r x : Option β) : ∀ l : List Bool, chain r l x = if l.any id = true then r else x
  | [] => rfl
  | true :: l => rfl
  | false :: l => by
    show chain r l x = _
    rw [chain_eq r x l]
    rfl
theorem part_go {E W : List Bool} {x : Option CV} {c : Cd} {v : Int} (h0 : ¬ (c.k < 1 ∨ c.k > 14)) (hE : E.any id = extraB c) (hW : extraB c = false → W.any id = wrongB c) (hx : x = some (.int .i64 v))
    (hv : v = if isp c.k = true then perE c.fr c.to c.days else if isc c.k = true then codesE c else 0) : chain (some (.int .i64 3)) E (chain (some (.int .i64 2)) W x) = some (.int .i64 (partE c)) := by
  rw [chain_eq, chain_eq, hE]
  unfold partE
  rw [if_neg h0]
  cases he : extraB c with
  | true => rw [if_pos rfl, if_pos rfl]
  | false =>
    simp only [Bool.false_eq_true, if_false]
    rw [hW he]
    cases hw : wrongB c with
    | true => rw [if_pos rfl, if_pos rfl]
    | false =>
      simp only [Bool.false_eq_true, if_false]
      rw [hx, hv]
theorem part_ret (c : Cd) (hf : Fits c) (hl : c.l.length ≤ 127) : Ret lb F_cond_part [cdv c] (.int .i64 (partE c)) := by
  refine .top rfl (.eq (fun n => by rw [cond_part_eq, cond_formOf_d1_eq]) ?_)
  obtain ⟨f1, f2⟩ := fits_tlen hf
  have e5 := period_Check_ret lb c.fr c.to c.days
  have e11 := codes_text_Carrier_ret lb c.tn c.t f1 f2
  have e13 := codes_text_Airport_ret lb c.tn c.t f1 f2
  have e14 := codes_cond_passenger_ret lb c.tn c.t f1 f2
  refine Evt.imp2 (Evt.and e5 e11) (Evt.and e13 e14) fun n ⟨a5, a11⟩ ⟨a13, a14⟩ => ?_
  by_cases k1 : c.k = 1
  · refine stT (beqT k1) ((cond_part_c1_0_eq ..).trans (Eq.trans (show _ = chain (some (.int .i64 3)) [(c.a != 0), (c.b != 0), (!((c.fr == 0) && ((c.to == 0) && ((c.days == 0) && true)))), (decide (((scv c.t).length : Int) > 0)), (decide (((c.l.map ccv).length : Int) > 0))] (chain (some (.int .i64 2)) [(decide (((c.l.map ccv).length : Int) < 0)), (decide (((c.l.map ccv).length : Int) > 0))] (some (.int .i64 0))) from rfl) ?_))
    simp only [List.length_map, scv_len]
    refine part_go (v := 0) (by omega) ?_ (fun he => ?_) (rfl) ?_
    · unfold extraB
      rw [k1]
      show [c.a != 0, c.b != 0, perN c, decide ((c.t.length : Int) > 0), decide ((c.l.length : Int) > 0)].any id = _
      exact (by decide : ∀ A B P T L : Bool, [A, B, P, T, L].any id = extraF 1 A B P T L) _ _ _ _ _
    · have hz : c.l.length = 0 := by
        unfold extraB at he
        rw [k1] at he
        have := (by decide : ∀ A B P T L : Bool, extraF 1 A B P T L = false → L = false) _ _ _ _ _ he
        simpa using this
      unfold wrongB
      simp only [k1]
      refine Bool.eq_iff_iff.2 ?_
      simp
      try first | omega | (rw [← List.length_eq_zero_iff]; omega)
    · rw [k1]
      first | rfl | (unfold codesE; rw [k1]; rfl)
  refine stF (beqF k1) ?_
  by_cases k2 : c.k = 2
  · refine stT (beqT k2) ((cond_part_c1_1_eq ..).trans (Eq.trans (show _ = chain (some (.int .i64 3)) [(c.a != 0), (c.b != 0), (!((c.fr == 0) && ((c.to == 0) && ((c.days == 0) && true)))), (decide (((scv c.t).length : Int) > 0))] (chain (some (.int .i64 2)) [(decide (((c.l.map ccv).length : Int) < 1)), (decide (((c.l.map ccv).length : Int) > 128))] (some (.int .i64 0))) from rfl) ?_))
    simp only [List.length_map, scv_len]
    refine part_go (v := 0) (by omega) ?_ (fun he => ?_) (rfl) ?_
    · unfold extraB
      rw [k2]
      show [c.a != 0, c.b != 0, perN c, decide ((c.t.length : Int) > 0)].any id = _
      exact (by decide : ∀ A B P T L : Bool, [A, B, P, T].any id = extraF 2 A B P T L) _ _ _ _ _
    · unfold wrongB
      simp only [k2]
      refine Bool.eq_iff_iff.2 ?_
      simp
      try first | omega | (rw [← List.length_eq_zero_iff]; omega)
    · rw [k2]
      first | rfl | (unfold codesE; rw [k2]; rfl)
  refine stF (beqF k2) ?_
  by_cases k3 : c.k = 3
  · refine stT (beqT k3) ((cond_part_c1_2_eq ..).trans (Eq.trans (show _ = chain (some (.int .i64 3)) [(c.a != 0), (c.b != 0), (!((c.fr == 0) && ((c.to == 0) && ((c.days == 0) && true)))), (decide (((scv c.t).length : Int) > 0))] (chain (some (.int .i64 2)) [(decide (((c.l.map ccv).length : Int) < 1)), (decide (((c.l.map ccv).length : Int) > 128))] (some (.int .i64 0))) from rfl) ?_))
    simp only [List.length_map, scv_len]
    refine part_go (v := 0) (by omega) ?_ (fun he => ?_) (rfl) ?_
    · unfold extraB
      rw [k3]
      show [c.a != 0, c.b != 0, perN c, decide ((c.t.length : Int) > 0)].any id = _
      exact (by decide : ∀ A B P T L : Bool, [A, B, P, T].any id = extraF 3 A B P T L) _ _ _ _ _
    · unfold wrongB
      simp only [k3]
      refine Bool.eq_iff_iff.2 ?_
      simp
      try first | omega | (rw [← List.length_eq_zero_iff]; omega)
    · rw [k3]
      first | rfl | (unfold codesE; rw [k3]; rfl)
  refine stF (beqF k3) ?_
  by_cases k4 : c.k = 4
  · refine stT (beqT k4) ((cond_part_c1_3_eq ..).trans (Eq.trans (show _ = chain (some (.int .i64 3)) [(c.a != 0), (c.b != 0), (!((c.fr == 0) && ((c.to == 0) && ((c.days == 0) && true)))), (decide (((scv c.t).length : Int) > 0))] (chain (some (.int .i64 2)) [(decide (((c.l.map ccv).length : Int) < 1)), (decide (((c.l.map ccv).length : Int) > 1))] (some (.int .i64 0))) from rfl) ?_))
    simp only [List.length_map, scv_len]
    refine part_go (v := 0) (by omega) ?_ (fun he => ?_) (rfl) ?_
    · unfold extraB
      rw [k4]
      show [c.a != 0, c.b != 0, perN c, decide ((c.t.length : Int) > 0)].any id = _
      exact (by decide : ∀ A B P T L : Bool, [A, B, P, T].any id = extraF 4 A B P T L) _ _ _ _ _
    · unfold wrongB
      simp only [k4]
      refine Bool.eq_iff_iff.2 ?_
      simp
      try first | omega | (rw [← List.length_eq_zero_iff]; omega)
    · rw [k4]
      first | rfl | (unfold codesE; rw [k4]; rfl)
  refine stF (beqF k4) ?_
  by_cases k5 : c.k = 5
  · refine stT (beqT k5) ((cond_part_c1_4_eq ..).trans (Eq.trans (show _ = chain (some (.int .i64 3)) [(c.a != 0), (c.b != 0), (decide (((scv c.t).length : Int) > 0)), (decide (((c.l.map ccv).length : Int) > 0))] (chain (some (.int .i64 2)) [(decide (((c.l.map ccv).length : Int) < 0)), (decide (((c.l.map ccv).length : Int) > 0))] (optO (C lb n F_period_Check [.agg [.int .i64 c.fr, .int .i64 c.to, .int .i64 c.days]]) fun r => some r)) from rfl) ?_))
    simp only [List.length_map, scv_len]
    refine part_go (v := perE c.fr c.to c.days) (by omega) ?_ (fun he => ?_) (stO _ a5 rfl) ?_
    · unfold extraB
      rw [k5]
      show [c.a != 0, c.b != 0, decide ((c.t.length : Int) > 0), decide ((c.l.length : Int) > 0)].any id = _
      exact (by decide : ∀ A B P T L : Bool, [A, B, T, L].any id = extraF 5 A B P T L) _ _ _ _ _
    · have hz : c.l.length = 0 := by
        unfold extraB at he
        rw [k5] at he
        have := (by decide : ∀ A B P T L : Bool, extraF 5 A B P T L = false → L = false) _ _ _ _ _ he
        simpa using this
      unfold wrongB
      simp only [k5]
      refine Bool.eq_iff_iff.2 ?_
      simp
      try first | omega | (rw [← List.length_eq_zero_iff]; omega)
    · rw [k5]
      first | rfl | (unfold codesE; rw [k5]; rfl)
  refine stF (beqF k5) ?_
  by_cases k6 : c.k = 6
  · refine stT (beqT k6) ((cond_part_c1_5_eq ..).trans (Eq.trans (show _ = chain (some (.int .i64 3)) [(c.a != 0), (c.b != 0), (decide (((scv c.t).length : Int) > 0)), (decide (((c.l.map ccv).length : Int) > 0))] (chain (some (.int .i64 2)) [(decide (((c.l.map ccv).length : Int) < 0)), (decide (((c.l.map ccv).length : Int) > 0))] (optO (C lb n F_period_Check [.agg [.int .i64 c.fr, .int .i64 c.to, .int .i64 c.days]]) fun r => some r)) from rfl) ?_))
    simp only [List.length_map, scv_len]
    refine part_go (v := perE c.fr c.to c.days) (by omega) ?_ (fun he => ?_) (stO _ a5 rfl) ?_
    · unfold extraB
      rw [k6]
      show [c.a != 0, c.b != 0, decide ((c.t.length : Int) > 0), decide ((c.l.length : Int) > 0)].any id = _
      exact (by decide : ∀ A B P T L : Bool, [A, B, T, L].any id = extraF 6 A B P T L) _ _ _ _ _
    · have hz : c.l.length = 0 := by
        unfold extraB at he
        rw [k6] at he
        have := (by decide : ∀ A B P T L : Bool, extraF 6 A B P T L = false → L = false) _ _ _ _ _ he
        simpa using this
      unfold wrongB
      simp only [k6]
      refine Bool.eq_iff_iff.2 ?_
      simp
      try first | omega | (rw [← List.length_eq_zero_iff]; omega)
    · rw [k6]
      first | rfl | (unfold codesE; rw [k6]; rfl)
  refine stF (beqF k6) ?_
  by_cases k7 : c.k = 7
  · refine stT (beqT k7) ((cond_part_c1_6_eq ..).trans (Eq.trans (show _ = chain (some (.int .i64 3)) [(c.b != 0), (!((c.fr == 0) && ((c.to == 0) && ((c.days == 0) && true)))), (decide (((scv c.t).length : Int) > 0)), (decide (((c.l.map ccv).length : Int) > 0))] (chain (some (.int .i64 2)) [(decide (((c.l.map ccv).length : Int) < 0)), (decide (((c.l.map ccv).length : Int) > 0)), (decide (c.a < 0)), (decide (c.a > 36524))] (some (.int .i64 0))) from rfl) ?_))
    simp only [List.length_map, scv_len]
    refine part_go (v := 0) (by omega) ?_ (fun he => ?_) (rfl) ?_
    · unfold extraB
      rw [k7]
      show [c.b != 0, perN c, decide ((c.t.length : Int) > 0), decide ((c.l.length : Int) > 0)].any id = _
      exact (by decide : ∀ A B P T L : Bool, [B, P, T, L].any id = extraF 7 A B P T L) _ _ _ _ _
    · have hz : c.l.length = 0 := by
        unfold extraB at he
        rw [k7] at he
        have := (by decide : ∀ A B P T L : Bool, extraF 7 A B P T L = false → L = false) _ _ _ _ _ he
        simpa using this
      unfold wrongB
      simp only [k7]
      refine Bool.eq_iff_iff.2 ?_
      simp
      try first | omega | (rw [← List.length_eq_zero_iff]; omega)
    · rw [k7]
      first | rfl | (unfold codesE; rw [k7]; rfl)
  refine stF (beqF k7) ?_
  by_cases k8 : c.k = 8
  · refine stT (beqT k8) ((cond_part_c1_7_eq ..).trans (Eq.trans (show _ = chain (some (.int .i64 3)) [(!((c.fr == 0) && ((c.to == 0) && ((c.days == 0) && true)))), (decide (((scv c.t).length : Int) > 0)), (decide (((c.l.map ccv).length : Int) > 0))] (chain (some (.int .i64 2)) [(decide (((c.l.map ccv).length : Int) < 0)), (decide (((c.l.map ccv).length : Int) > 0)), (decide (c.a < 0)), (decide (c.a > 1439)), (decide (c.b < 0)), (decide (c.b > 1439))] (some (.int .i64 0))) from rfl) ?_))
    simp only [List.length_map, scv_len]
    refine part_go (v := 0) (by omega) ?_ (fun he => ?_) (rfl) ?_
    · unfold extraB
      rw [k8]
      show [perN c, decide ((c.t.length : Int) > 0), decide ((c.l.length : Int) > 0)].any id = _
      exact (by decide : ∀ A B P T L : Bool, [P, T, L].any id = extraF 8 A B P T L) _ _ _ _ _
    · have hz : c.l.length = 0 := by
        unfold extraB at he
        rw [k8] at he
        have := (by decide : ∀ A B P T L : Bool, extraF 8 A B P T L = false → L = false) _ _ _ _ _ he
        simpa using this
      unfold wrongB
      simp only [k8]
      refine Bool.eq_iff_iff.2 ?_
      simp
      try first | omega | (rw [← List.length_eq_zero_iff]; omega)
    · rw [k8]
      first | rfl | (unfold codesE; rw [k8]; rfl)
  refine stF (beqF k8) ?_
  by_cases k9 : c.k = 9
  · refine stT (beqT k9) ((cond_part_c1_8_eq ..).trans (Eq.trans (show _ = chain (some (.int .i64 3)) [(c.b != 0), (!((c.fr == 0) && ((c.to == 0) && ((c.days == 0) && true)))), (decide (((scv c.t).length : Int) > 0)), (decide (((c.l.map ccv).length : Int) > 0))] (chain (some (.int .i64 2)) [(decide (((c.l.map ccv).length : Int) < 0)), (decide (((c.l.map ccv).length : Int) > 0)), (decide (c.a < 0)), (decide (c.a > 6))] (some (.int .i64 0))) from rfl) ?_))
    simp only [List.length_map, scv_len]
    refine part_go (v := 0) (by omega) ?_ (fun he => ?_) (rfl) ?_
    · unfold extraB
      rw [k9]
      show [c.b != 0, perN c, decide ((c.t.length : Int) > 0), decide ((c.l.length : Int) > 0)].any id = _
      exact (by decide : ∀ A B P T L : Bool, [B, P, T, L].any id = extraF 9 A B P T L) _ _ _ _ _
    · have hz : c.l.length = 0 := by
        unfold extraB at he
        rw [k9] at he
        have := (by decide : ∀ A B P T L : Bool, extraF 9 A B P T L = false → L = false) _ _ _ _ _ he
        simpa using this
      unfold wrongB
      simp only [k9]
      refine Bool.eq_iff_iff.2 ?_
      simp
      try first | omega | (rw [← List.length_eq_zero_iff]; omega)
    · rw [k9]
      first | rfl | (unfold codesE; rw [k9]; rfl)
  refine stF (beqF k9) ?_
  by_cases k10 : c.k = 10
  · refine stT (beqT k10) ((cond_part_c1_9_eq ..).trans (Eq.trans (show _ = chain (some (.int .i64 3)) [(c.b != 0), (!((c.fr == 0) && ((c.to == 0) && ((c.days == 0) && true)))), (decide (((scv c.t).length : Int) > 0)), (decide (((c.l.map ccv).length : Int) > 0))] (chain (some (.int .i64 2)) [(decide (((c.l.map ccv).length : Int) < 0)), (decide (((c.l.map ccv).length : Int) > 0)), (decide (c.a < 0)), (decide (c.a > 6))] (some (.int .i64 0))) from rfl) ?_))
    simp only [List.length_map, scv_len]
    refine part_go (v := 0) (by omega) ?_ (fun he => ?_) (rfl) ?_
    · unfold extraB
      rw [k10]
      show [c.b != 0, perN c, decide ((c.t.length : Int) > 0), decide ((c.l.length : Int) > 0)].any id = _
      exact (by decide : ∀ A B P T L : Bool, [B, P, T, L].any id = extraF 10 A B P T L) _ _ _ _ _
    · have hz : c.l.length = 0 := by
        unfold extraB at he
        rw [k10] at he
        have := (by decide : ∀ A B P T L : Bool, extraF 10 A B P T L = false → L = false) _ _ _ _ _ he
        simpa using this
      unfold wrongB
      simp only [k10]
      refine Bool.eq_iff_iff.2 ?_
      simp
      try first | omega | (rw [← List.length_eq_zero_iff]; omega)
    · rw [k10]
      first | rfl | (unfold codesE; rw [k10]; rfl)
  refine stF (beqF k10) ?_
  by_cases k11 : c.k = 11
  · refine stT (beqT k11) ((cond_part_c1_10_eq ..).trans (Eq.trans (show _ = chain (some (.int .i64 3)) [(c.a != 0), (c.b != 0), (!((c.fr == 0) && ((c.to == 0) && ((c.days == 0) && true)))), (decide (((c.l.map ccv).length : Int) > 0))] (chain (some (.int .i64 2)) [(decide (((c.l.map ccv).length : Int) < 0)), (decide (((c.l.map ccv).length : Int) > 0))] (optO (C lb n F_cond_codes [.list c.tn (scv c.t), .fn F_text_Carrier]) fun r => some r)) from rfl) ?_))
    simp only [List.length_map, scv_len]
    refine part_go (v := if c.t = [] then 2 else codesF carrierB [] c.t) (by omega) ?_ (fun he => ?_) (stO _ a11 rfl) ?_
    · unfold extraB
      rw [k11]
      show [c.a != 0, c.b != 0, perN c, decide ((c.l.length : Int) > 0)].any id = _
      exact (by decide : ∀ A B P T L : Bool, [A, B, P, L].any id = extraF 11 A B P T L) _ _ _ _ _
    · have hz : c.l.length = 0 := by
        unfold extraB at he
        rw [k11] at he
        have := (by decide : ∀ A B P T L : Bool, extraF 11 A B P T L = false → L = false) _ _ _ _ _ he
        simpa using this
      unfold wrongB
      simp only [k11]
      refine Bool.eq_iff_iff.2 ?_
      simp
      try first | omega | (rw [← List.length_eq_zero_iff]; omega)
    · rw [k11]
      first | rfl | (unfold codesE; rw [k11]; rfl)
  refine stF (beqF k11) ?_
  by_cases k12 : c.k = 12
  · refine stT (beqT k12) ((cond_part_c1_11_eq ..).trans (Eq.trans (show _ = chain (some (.int .i64 3)) [(!((c.fr == 0) && ((c.to == 0) && ((c.days == 0) && true)))), (decide (((scv c.t).length : Int) > 0)), (decide (((c.l.map ccv).length : Int) > 0))] (chain (some (.int .i64 2)) [(decide (((c.l.map ccv).length : Int) < 0)), (decide (((c.l.map ccv).length : Int) > 0)), (decide (c.a < 0)), (decide (c.a > 9999)), (decide (c.b < 0)), (decide (c.b > 9999)), (decide (c.a < 1)), (decide (c.a > c.b))] (some (.int .i64 0))) from rfl) ?_))
    simp only [List.length_map, scv_len]
    refine part_go (v := 0) (by omega) ?_ (fun he => ?_) (rfl) ?_
    · unfold extraB
      rw [k12]
      show [perN c, decide ((c.t.length : Int) > 0), decide ((c.l.length : Int) > 0)].any id = _
      exact (by decide : ∀ A B P T L : Bool, [P, T, L].any id = extraF 12 A B P T L) _ _ _ _ _
    · have hz : c.l.length = 0 := by
        unfold extraB at he
        rw [k12] at he
        have := (by decide : ∀ A B P T L : Bool, extraF 12 A B P T L = false → L = false) _ _ _ _ _ he
        simpa using this
      unfold wrongB
      simp only [k12]
      refine Bool.eq_iff_iff.2 ?_
      simp
      try first | omega | (rw [← List.length_eq_zero_iff]; omega)
    · rw [k12]
      first | rfl | (unfold codesE; rw [k12]; rfl)
  refine stF (beqF k12) ?_
  by_cases k13 : c.k = 13
  · refine stT (beqT k13) ((cond_part_c1_12_eq ..).trans (Eq.trans (show _ = chain (some (.int .i64 3)) [(c.a != 0), (c.b != 0), (!((c.fr == 0) && ((c.to == 0) && ((c.days == 0) && true)))), (decide (((c.l.map ccv).length : Int) > 0))] (chain (some (.int .i64 2)) [(decide (((c.l.map ccv).length : Int) < 0)), (decide (((c.l.map ccv).length : Int) > 0))] (optO (C lb n F_cond_codes [.list c.tn (scv c.t), .fn F_text_Airport]) fun r => some r)) from rfl) ?_))
    simp only [List.length_map, scv_len]
    refine part_go (v := if c.t = [] then 2 else codesF airportB [] c.t) (by omega) ?_ (fun he => ?_) (stO _ a13 rfl) ?_
    · unfold extraB
      rw [k13]
      show [c.a != 0, c.b != 0, perN c, decide ((c.l.length : Int) > 0)].any id = _
      exact (by decide : ∀ A B P T L : Bool, [A, B, P, L].any id = extraF 13 A B P T L) _ _ _ _ _
    · have hz : c.l.length = 0 := by
        unfold extraB at he
        rw [k13] at he
        have := (by decide : ∀ A B P T L : Bool, extraF 13 A B P T L = false → L = false) _ _ _ _ _ he
        simpa using this
      unfold wrongB
      simp only [k13]
      refine Bool.eq_iff_iff.2 ?_
      simp
      try first | omega | (rw [← List.length_eq_zero_iff]; omega)
    · rw [k13]
      first | rfl | (unfold codesE; rw [k13]; rfl)
  refine stF (beqF k13) ?_
  by_cases k14 : c.k = 14
  · refine stT (beqT k14) ((cond_part_c1_13_eq ..).trans (Eq.trans (show _ = chain (some (.int .i64 3)) [(c.a != 0), (c.b != 0), (!((c.fr == 0) && ((c.to == 0) && ((c.days == 0) && true)))), (decide (((c.l.map ccv).length : Int) > 0))] (chain (some (.int .i64 2)) [(decide (((c.l.map ccv).length : Int) < 0)), (decide (((c.l.map ccv).length : Int) > 0))] (optO (C lb n F_cond_codes [.list c.tn (scv c.t), .fn F_cond_passenger]) fun r => some r)) from rfl) ?_))
    simp only [List.length_map, scv_len]
    refine part_go (v := if c.t = [] then 2 else codesF paxB [] c.t) (by omega) ?_ (fun he => ?_) (stO _ a14 rfl) ?_
    · unfold extraB
      rw [k14]
      show [c.a != 0, c.b != 0, perN c, decide ((c.l.length : Int) > 0)].any id = _
      exact (by decide : ∀ A B P T L : Bool, [A, B, P, L].any id = extraF 14 A B P T L) _ _ _ _ _
    · have hz : c.l.length = 0 := by
        unfold extraB at he
        rw [k14] at he
        have := (by decide : ∀ A B P T L : Bool, extraF 14 A B P T L = false → L = false) _ _ _ _ _ he
        simpa using this
      unfold wrongB
      simp only [k14]
      refine Bool.eq_iff_iff.2 ?_
      simp
      try first | omega | (rw [← List.length_eq_zero_iff]; omega)
    · rw [k14]
      first | rfl | (unfold codesE; rw [k14]; rfl)
  refine stF (beqF k14) ?_
  refine (cond_part_c1_14_eq ..).trans ?_
  unfold partE
  rw [if_pos (by omega)]
end Go.Proofs
