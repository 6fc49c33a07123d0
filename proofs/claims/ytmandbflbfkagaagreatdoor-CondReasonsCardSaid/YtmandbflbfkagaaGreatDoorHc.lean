/- Equations of functions, printed by program. Conditions: none. -/
import Derived.Test.YtmandbflbfkagaaGreatDoorEv
namespace Go.Proofs
open Go.Am
set_option maxRecDepth 100000
set_option linter.unusedVariables false
/-! airline/cond.codes -/
noncomputable def cond_codes_text_Carrier_L1 (lb : Nat) (n : Nat) (k18 : Nat) (an1 : Bool) (a2 : List (List CV)) (i10 : Int) : Option CV :=
  hold (loopC (E0 lb n 0 994) 0 (loopTemps (sub (B F_cond_codes) [1, 1, 0, 1, 0, 0]) ++ [5, 6]) [] (sub (B F_cond_codes) [1, 1, 0, 1, 0, 0]) (blockK 0 (seqK (E0 lb n 0 997) (sub (B F_cond_codes) [1, 1, 0]) (sub (B F_cond_codes) [1, 1, 1]) (retK Tryz.prog (R F_cond_codes) 0 (outK (tightF Tryz.prog F_cond_codes))))) k18 ⟨fr 27 [(0, .val (.list an1 a2)), (1, .val (.fn F_text_Carrier)), (4, .val (.int .i64 0)), (10, .val (.list an1 a2)), (11, .val (.int .i64 (a2.length : Int))), (12, .val (.int .i64 i10))], [bx 27 []], KK⟩)

noncomputable def cond_codes_text_Carrier_J2 (lb : Nat) (n : Nat) (an1 : Bool) (a2 : List (List CV)) : Option CV :=
  hold (E0 lb n 0 997 (sub (B F_cond_codes) [1, 1, 1]) (retK Tryz.prog (R F_cond_codes) 0 (outK (tightF Tryz.prog F_cond_codes))) ⟨fr 27 [(0, .val (.list an1 a2)), (1, .val (.fn F_text_Carrier)), (4, .val (.int .i64 0))], [bx 27 []], KK⟩)

theorem cond_codes_text_Carrier_J2_eq (lb : Nat) (n : Nat) (an1 : Bool) (a2 : List (List CV)) :
  cond_codes_text_Carrier_J2 lb n an1 a2 =
 some (.int .i64 0) := (hold_eq _).trans (by kernel_rfl)

theorem cond_codes_text_Carrier_L1_succ (lb : Nat) (n k18 : Nat) (an1 : Bool) (a2 : List (List CV)) (i10 : Int) :
  cond_codes_text_Carrier_L1 lb n (k18 + 1) an1 a2 i10 =
 bif (decide (i10 < (a2.length : Int))) then
 (optO (atL a2 i10) fun c19 =>
 chkO (c19.length == 1) (
 optO (c19[0]?) fun x20 =>
 optO (C lb n F_text_Carrier [x20]) fun r21 =>
 optO (CV.asB r21) fun b22 =>
 bif (!b22) then
 (some (.int .i64 5))
 else
 (chkO (a2.all (·.length == 1)) (
 chkO (decide ((0 : Int) ≤ i10 ∧ i10 ≤ (a2.length : Int))) (
 optO (C lb n F_slices_Contains_string [.list an1 ((a2.take i10.toNat).drop 0), x20]) fun r23 =>
 optO (CV.asB r23) fun b24 =>
 bif b24 then
 (some (.int .i64 6))
 else
 (cond_codes_text_Carrier_L1 lb n k18 an1 a2 (IntKind.wrap .i64 (i10 + 1))))))))
 else
 (cond_codes_text_Carrier_J2 lb n an1 a2 ) := (hold_eq _).trans (by kernel_rfl)

theorem cond_codes_text_Carrier_L1_zero (lb : Nat) (n : Nat) (an1 : Bool) (a2 : List (List CV)) (i10 : Int) :
  cond_codes_text_Carrier_L1 lb n 0 an1 a2 i10 =
 none := (hold_eq _).trans (by kernel_rfl)

theorem cond_codes_text_Carrier_eq (lb : Nat) (n : Nat) (an1 : Bool) (a2 : List (List CV)) :
  top lb n F_cond_codes [.list an1 a2, .fn F_text_Carrier] =
 bif ((a2.length : Int) == 0) then
 (some (.int .i64 2))
 else
 (cond_codes_text_Carrier_L1 lb n n an1 a2 0) := by kernel_rfl

/-! airline/cond.codes -/
noncomputable def cond_codes_text_Airport_L1 (lb : Nat) (n : Nat) (k18 : Nat) (an1 : Bool) (a2 : List (List CV)) (i10 : Int) : Option CV :=
  hold (loopC (E0 lb n 0 994) 0 (loopTemps (sub (B F_cond_codes) [1, 1, 0, 1, 0, 0]) ++ [5, 6]) [] (sub (B F_cond_codes) [1, 1, 0, 1, 0, 0]) (blockK 0 (seqK (E0 lb n 0 997) (sub (B F_cond_codes) [1, 1, 0]) (sub (B F_cond_codes) [1, 1, 1]) (retK Tryz.prog (R F_cond_codes) 0 (outK (tightF Tryz.prog F_cond_codes))))) k18 ⟨fr 27 [(0, .val (.list an1 a2)), (1, .val (.fn F_text_Airport)), (4, .val (.int .i64 0)), (10, .val (.list an1 a2)), (11, .val (.int .i64 (a2.length : Int))), (12, .val (.int .i64 i10))], [bx 27 []], KK⟩)

noncomputable def cond_codes_text_Airport_J2 (lb : Nat) (n : Nat) (an1 : Bool) (a2 : List (List CV)) : Option CV :=
  hold (E0 lb n 0 997 (sub (B F_cond_codes) [1, 1, 1]) (retK Tryz.prog (R F_cond_codes) 0 (outK (tightF Tryz.prog F_cond_codes))) ⟨fr 27 [(0, .val (.list an1 a2)), (1, .val (.fn F_text_Airport)), (4, .val (.int .i64 0))], [bx 27 []], KK⟩)

theorem cond_codes_text_Airport_J2_eq (lb : Nat) (n : Nat) (an1 : Bool) (a2 : List (List CV)) :
  cond_codes_text_Airport_J2 lb n an1 a2 =
 some (.int .i64 0) := (hold_eq _).trans (by kernel_rfl)

theorem cond_codes_text_Airport_L1_succ (lb : Nat) (n k18 : Nat) (an1 : Bool) (a2 : List (List CV)) (i10 : Int) :
  cond_codes_text_Airport_L1 lb n (k18 + 1) an1 a2 i10 =
 bif (decide (i10 < (a2.length : Int))) then
 (optO (atL a2 i10) fun c19 =>
 chkO (c19.length == 1) (
 optO (c19[0]?) fun x20 =>
 optO (C lb n F_text_Airport [x20]) fun r21 =>
 optO (CV.asB r21) fun b22 =>
 bif (!b22) then
 (some (.int .i64 5))
 else
 (chkO (a2.all (·.length == 1)) (
 chkO (decide ((0 : Int) ≤ i10 ∧ i10 ≤ (a2.length : Int))) (
 optO (C lb n F_slices_Contains_string [.list an1 ((a2.take i10.toNat).drop 0), x20]) fun r23 =>
 optO (CV.asB r23) fun b24 =>
 bif b24 then
 (some (.int .i64 6))
 else
 (cond_codes_text_Airport_L1 lb n k18 an1 a2 (IntKind.wrap .i64 (i10 + 1))))))))
 else
 (cond_codes_text_Airport_J2 lb n an1 a2 ) := (hold_eq _).trans (by kernel_rfl)

theorem cond_codes_text_Airport_L1_zero (lb : Nat) (n : Nat) (an1 : Bool) (a2 : List (List CV)) (i10 : Int) :
  cond_codes_text_Airport_L1 lb n 0 an1 a2 i10 =
 none := (hold_eq _).trans (by kernel_rfl)

theorem cond_codes_text_Airport_eq (lb : Nat) (n : Nat) (an1 : Bool) (a2 : List (List CV)) :
  top lb n F_cond_codes [.list an1 a2, .fn F_text_Airport] =
 bif ((a2.length : Int) == 0) then
 (some (.int .i64 2))
 else
 (cond_codes_text_Airport_L1 lb n n an1 a2 0) := by kernel_rfl

/-! airline/cond.codes -/
noncomputable def cond_codes_cond_passenger_L1 (lb : Nat) (n : Nat) (k18 : Nat) (an1 : Bool) (a2 : List (List CV)) (i10 : Int) : Option CV :=
  hold (loopC (E0 lb n 0 994) 0 (loopTemps (sub (B F_cond_codes) [1, 1, 0, 1, 0, 0]) ++ [5, 6]) [] (sub (B F_cond_codes) [1, 1, 0, 1, 0, 0]) (blockK 0 (seqK (E0 lb n 0 997) (sub (B F_cond_codes) [1, 1, 0]) (sub (B F_cond_codes) [1, 1, 1]) (retK Tryz.prog (R F_cond_codes) 0 (outK (tightF Tryz.prog F_cond_codes))))) k18 ⟨fr 27 [(0, .val (.list an1 a2)), (1, .val (.fn F_cond_passenger)), (4, .val (.int .i64 0)), (10, .val (.list an1 a2)), (11, .val (.int .i64 (a2.length : Int))), (12, .val (.int .i64 i10))], [bx 27 []], KK⟩)

noncomputable def cond_codes_cond_passenger_J2 (lb : Nat) (n : Nat) (an1 : Bool) (a2 : List (List CV)) : Option CV :=
  hold (E0 lb n 0 997 (sub (B F_cond_codes) [1, 1, 1]) (retK Tryz.prog (R F_cond_codes) 0 (outK (tightF Tryz.prog F_cond_codes))) ⟨fr 27 [(0, .val (.list an1 a2)), (1, .val (.fn F_cond_passenger)), (4, .val (.int .i64 0))], [bx 27 []], KK⟩)

theorem cond_codes_cond_passenger_J2_eq (lb : Nat) (n : Nat) (an1 : Bool) (a2 : List (List CV)) :
  cond_codes_cond_passenger_J2 lb n an1 a2 =
 some (.int .i64 0) := (hold_eq _).trans (by kernel_rfl)

theorem cond_codes_cond_passenger_L1_succ (lb : Nat) (n k18 : Nat) (an1 : Bool) (a2 : List (List CV)) (i10 : Int) :
  cond_codes_cond_passenger_L1 lb n (k18 + 1) an1 a2 i10 =
 bif (decide (i10 < (a2.length : Int))) then
 (optO (atL a2 i10) fun c19 =>
 chkO (c19.length == 1) (
 optO (c19[0]?) fun x20 =>
 optO (C lb n F_cond_passenger [x20]) fun r21 =>
 optO (CV.asB r21) fun b22 =>
 bif (!b22) then
 (some (.int .i64 5))
 else
 (chkO (a2.all (·.length == 1)) (
 chkO (decide ((0 : Int) ≤ i10 ∧ i10 ≤ (a2.length : Int))) (
 optO (C lb n F_slices_Contains_string [.list an1 ((a2.take i10.toNat).drop 0), x20]) fun r23 =>
 optO (CV.asB r23) fun b24 =>
 bif b24 then
 (some (.int .i64 6))
 else
 (cond_codes_cond_passenger_L1 lb n k18 an1 a2 (IntKind.wrap .i64 (i10 + 1))))))))
 else
 (cond_codes_cond_passenger_J2 lb n an1 a2 ) := (hold_eq _).trans (by kernel_rfl)

theorem cond_codes_cond_passenger_L1_zero (lb : Nat) (n : Nat) (an1 : Bool) (a2 : List (List CV)) (i10 : Int) :
  cond_codes_cond_passenger_L1 lb n 0 an1 a2 i10 =
 none := (hold_eq _).trans (by kernel_rfl)

theorem cond_codes_cond_passenger_eq (lb : Nat) (n : Nat) (an1 : Bool) (a2 : List (List CV)) :
  top lb n F_cond_codes [.list an1 a2, .fn F_cond_passenger] =
 bif ((a2.length : Int) == 0) then
 (some (.int .i64 2))
 else
 (cond_codes_cond_passenger_L1 lb n n an1 a2 0) := by kernel_rfl

/-! airline/cond.passenger -/
theorem cond_passenger_eq (lb : Nat) (n : Nat) (a1 : List UInt8) :
  top lb n F_cond_passenger [.str a1] =
 optO (C lb n F_text_Code [.str a1, .int .i64 3, .int .i64 3]) fun r2 =>
 some (r2) := by kernel_rfl

/-! airline/airlineref20.list -/
theorem r20_list_eq (lb : Nat) (n : Nat) (a1 : Int) :
  top lb n F_r20_list [.int .i64 a1] =
 bif (a1 == 2) then
 (some (.bool true))
 else
 (bif (a1 == 3) then
 (some (.bool true))
 else
 (some (.bool (a1 == 4)))) := by kernel_rfl

/-! airline/airlineref20.period -/
theorem r20_period_eq (lb : Nat) (n : Nat) (a1 : Int) :
  top lb n F_r20_period [.int .i64 a1] =
 bif (a1 == 5) then
 (some (.bool true))
 else
 (some (.bool (a1 == 6))) := by kernel_rfl

/-! airline/airlineref20.codes -/
theorem r20_codes_eq (lb : Nat) (n : Nat) (a1 : Int) :
  top lb n F_r20_codes [.int .i64 a1] =
 bif (a1 == 11) then
 (some (.bool true))
 else
 (bif (a1 == 13) then
 (some (.bool true))
 else
 (some (.bool (a1 == 14)))) := by kernel_rfl

/-! airline/airlineref20.numbers -/
theorem r20_numbers_eq (lb : Nat) (n : Nat) (a1 : Int) :
  top lb n F_r20_numbers [.int .i64 a1] =
 bif (a1 == 8) then
 (some (.int .i64 2))
 else
 (bif (a1 == 12) then
 (some (.int .i64 2))
 else
 (bif (a1 == 7) then
 (some (.int .i64 1))
 else
 (bif (a1 == 9) then
 (some (.int .i64 1))
 else
 (bif (a1 == 10) then
 (some (.int .i64 1))
 else
 (some (.int .i64 0)))))) := by kernel_rfl

/-! airline/airlineref20.extra -/
theorem r20_extra_eq (lb : Nat) (n : Nat) (akin1 : Int) (aln2 : Bool) (al3 : List (List CV)) (aa4 : Int) (ab5 : Int) (aperfro6 : Int) (aperto7 : Int) (aperday9 : Int) (atexn10 : Bool) (atex11 : List (List CV)) :
  top lb n F_r20_extra [.agg [.int .i64 akin1, .list aln2 al3, .int .i64 aa4, .int .i64 ab5, .int .i64 aperfro6, .int .i64 aperto7, .int .i64 aperday9, .list atexn10 atex11]] =
 optO (C lb n F_r20_list [.int .i64 akin1]) fun r12 =>
 optO (CV.asB r12) fun b13 =>
 bif (!b13) then
 (bif (decide ((al3.length : Int) > 0)) then
 (some (.bool true))
 else
 (optO (C lb n F_r20_codes [.int .i64 akin1]) fun r14 =>
 optO (CV.asB r14) fun b15 =>
 bif (!b15) then
 (bif (decide ((atex11.length : Int) > 0)) then
 (some (.bool true))
 else
 (optO (C lb n F_r20_period [.int .i64 akin1]) fun r17 =>
 optO (CV.asB r17) fun b18 =>
 bif (!b18) then
 (bif (!((aperfro6 == 0) && ((aperto7 == 0) && ((aperday9 == 0) && true)))) then
 (some (.bool true))
 else
 (optO (C lb n F_r20_numbers [.int .i64 akin1]) fun r19 =>
 optO (CV.asI .i64 r19) fun i20 =>
 bif (decide (i20 < 1)) then
 (bif (aa4 != 0) then
 (some (.bool true))
 else
 (optO (C lb n F_r20_numbers [.int .i64 akin1]) fun r21 =>
 optO (CV.asI .i64 r21) fun i22 =>
 bif (decide (i22 < 2)) then
 (some (.bool (ab5 != 0)))
 else
 (some (.bool false))))
 else
 (optO (C lb n F_r20_numbers [.int .i64 akin1]) fun r23 =>
 optO (CV.asI .i64 r23) fun i24 =>
 bif (decide (i24 < 2)) then
 (some (.bool (ab5 != 0)))
 else
 (some (.bool false)))))
 else
 (optO (C lb n F_r20_numbers [.int .i64 akin1]) fun r25 =>
 optO (CV.asI .i64 r25) fun i26 =>
 bif (decide (i26 < 1)) then
 (bif (aa4 != 0) then
 (some (.bool true))
 else
 (optO (C lb n F_r20_numbers [.int .i64 akin1]) fun r27 =>
 optO (CV.asI .i64 r27) fun i28 =>
 bif (decide (i28 < 2)) then
 (some (.bool (ab5 != 0)))
 else
 (some (.bool false))))
 else
 (optO (C lb n F_r20_numbers [.int .i64 akin1]) fun r29 =>
 optO (CV.asI .i64 r29) fun i30 =>
 bif (decide (i30 < 2)) then
 (some (.bool (ab5 != 0)))
 else
 (some (.bool false))))))
 else
 (optO (C lb n F_r20_period [.int .i64 akin1]) fun r31 =>
 optO (CV.asB r31) fun b33 =>
 bif (!b33) then
 (bif (!((aperfro6 == 0) && ((aperto7 == 0) && ((aperday9 == 0) && true)))) then
 (some (.bool true))
 else
 (optO (C lb n F_r20_numbers [.int .i64 akin1]) fun r34 =>
 optO (CV.asI .i64 r34) fun i35 =>
 bif (decide (i35 < 1)) then
 (bif (aa4 != 0) then
 (some (.bool true))
 else
 (optO (C lb n F_r20_numbers [.int .i64 akin1]) fun r36 =>
 optO (CV.asI .i64 r36) fun i37 =>
 bif (decide (i37 < 2)) then
 (some (.bool (ab5 != 0)))
 else
 (some (.bool false))))
 else
 (optO (C lb n F_r20_numbers [.int .i64 akin1]) fun r38 =>
 optO (CV.asI .i64 r38) fun i39 =>
 bif (decide (i39 < 2)) then
 (some (.bool (ab5 != 0)))
 else
 (some (.bool false)))))
 else
 (optO (C lb n F_r20_numbers [.int .i64 akin1]) fun r40 =>
 optO (CV.asI .i64 r40) fun i41 =>
 bif (decide (i41 < 1)) then
 (bif (aa4 != 0) then
 (some (.bool true))
 else
 (optO (C lb n F_r20_numbers [.int .i64 akin1]) fun r42 =>
 optO (CV.asI .i64 r42) fun i43 =>
 bif (decide (i43 < 2)) then
 (some (.bool (ab5 != 0)))
 else
 (some (.bool false))))
 else
 (optO (C lb n F_r20_numbers [.int .i64 akin1]) fun r44 =>
 optO (CV.asI .i64 r44) fun i45 =>
 bif (decide (i45 < 2)) then
 (some (.bool (ab5 != 0)))
 else
 (some (.bool false)))))))
 else
 (optO (C lb n F_r20_codes [.int .i64 akin1]) fun r46 =>
 optO (CV.asB r46) fun b47 =>
 bif (!b47) then
 (bif (decide ((atex11.length : Int) > 0)) then
 (some (.bool true))
 else
 (optO (C lb n F_r20_period [.int .i64 akin1]) fun r48 =>
 optO (CV.asB r48) fun b49 =>
 bif (!b49) then
 (bif (!((aperfro6 == 0) && ((aperto7 == 0) && ((aperday9 == 0) && true)))) then
 (some (.bool true))
 else
 (optO (C lb n F_r20_numbers [.int .i64 akin1]) fun r50 =>
 optO (CV.asI .i64 r50) fun i51 =>
 bif (decide (i51 < 1)) then
 (bif (aa4 != 0) then
 (some (.bool true))
 else
 (optO (C lb n F_r20_numbers [.int .i64 akin1]) fun r52 =>
 optO (CV.asI .i64 r52) fun i53 =>
 bif (decide (i53 < 2)) then
 (some (.bool (ab5 != 0)))
 else
 (some (.bool false))))
 else
 (optO (C lb n F_r20_numbers [.int .i64 akin1]) fun r54 =>
 optO (CV.asI .i64 r54) fun i55 =>
 bif (decide (i55 < 2)) then
 (some (.bool (ab5 != 0)))
 else
 (some (.bool false)))))
 else
 (optO (C lb n F_r20_numbers [.int .i64 akin1]) fun r56 =>
 optO (CV.asI .i64 r56) fun i57 =>
 bif (decide (i57 < 1)) then
 (bif (aa4 != 0) then
 (some (.bool true))
 else
 (optO (C lb n F_r20_numbers [.int .i64 akin1]) fun r58 =>
 optO (CV.asI .i64 r58) fun i59 =>
 bif (decide (i59 < 2)) then
 (some (.bool (ab5 != 0)))
 else
 (some (.bool false))))
 else
 (optO (C lb n F_r20_numbers [.int .i64 akin1]) fun r60 =>
 optO (CV.asI .i64 r60) fun i61 =>
 bif (decide (i61 < 2)) then
 (some (.bool (ab5 != 0)))
 else
 (some (.bool false))))))
 else
 (optO (C lb n F_r20_period [.int .i64 akin1]) fun r62 =>
 optO (CV.asB r62) fun b63 =>
 bif (!b63) then
 (bif (!((aperfro6 == 0) && ((aperto7 == 0) && ((aperday9 == 0) && true)))) then
 (some (.bool true))
 else
 (optO (C lb n F_r20_numbers [.int .i64 akin1]) fun r65 =>
 optO (CV.asI .i64 r65) fun i66 =>
 bif (decide (i66 < 1)) then
 (bif (aa4 != 0) then
 (some (.bool true))
 else
 (optO (C lb n F_r20_numbers [.int .i64 akin1]) fun r67 =>
 optO (CV.asI .i64 r67) fun i68 =>
 bif (decide (i68 < 2)) then
 (some (.bool (ab5 != 0)))
 else
 (some (.bool false))))
 else
 (optO (C lb n F_r20_numbers [.int .i64 akin1]) fun r69 =>
 optO (CV.asI .i64 r69) fun i70 =>
 bif (decide (i70 < 2)) then
 (some (.bool (ab5 != 0)))
 else
 (some (.bool false)))))
 else
 (optO (C lb n F_r20_numbers [.int .i64 akin1]) fun r71 =>
 optO (CV.asI .i64 r71) fun i72 =>
 bif (decide (i72 < 1)) then
 (bif (aa4 != 0) then
 (some (.bool true))
 else
 (optO (C lb n F_r20_numbers [.int .i64 akin1]) fun r73 =>
 optO (CV.asI .i64 r73) fun i74 =>
 bif (decide (i74 < 2)) then
 (some (.bool (ab5 != 0)))
 else
 (some (.bool false))))
 else
 (optO (C lb n F_r20_numbers [.int .i64 akin1]) fun r75 =>
 optO (CV.asI .i64 r75) fun i76 =>
 bif (decide (i76 < 2)) then
 (some (.bool (ab5 != 0)))
 else
 (some (.bool false)))))) := by kernel_rfl

/-! airline/airlineref20.wrong -/
noncomputable def r20_wrong_J1 (lb : Nat) (n : Nat) (akin1 : Int) (aln2 : Bool) (al3 : List (List CV)) (aa4 : Int) (ab5 : Int) (aperfro6 : Int) (aperto7 : Int) (aperday9 : Int) (atexn10 : Bool) (atex11 : List (List CV)) (b12 : Bool) : Option CV :=
  hold (E0 lb n 0 995 (sub (B F_r20_wrong) [1, 0, 1, 0, 1]) (blockK 0 (seqK (E0 lb n 0 998) (sub (B F_r20_wrong) [1, 0]) (sub (B F_r20_wrong) [1, 1]) (retK Tryz.prog (R F_r20_wrong) 0 (outK (tightF Tryz.prog F_r20_wrong))))) ⟨fr 76 [(0, .val (.agg [.int .i64 akin1, .list aln2 al3, .int .i64 aa4, .int .i64 ab5, .int .i64 aperfro6, .int .i64 aperto7, .int .i64 aperday9, .list atexn10 atex11])), (1, .ptr 0 1 0), (2, .val (.bool false)), (3, .ptr 0 1 0), (4, .val (.int .i64 akin1)), (5, .val (.bool b12))], [bx 76 [(1, some [.val (.int .i64 akin1), .val (.list aln2 al3), .val (.int .i64 aa4), .val (.int .i64 ab5), .val (.int .i64 aperfro6), .val (.int .i64 aperto7), .val (.int .i64 aperday9), .val (.list atexn10 atex11)])]], KK⟩)

noncomputable def r20_wrong_J2 (lb : Nat) (n : Nat) (akin1 : Int) (aln2 : Bool) (al3 : List (List CV)) (aa4 : Int) (ab5 : Int) (aperfro6 : Int) (aperto7 : Int) (aperday9 : Int) (atexn10 : Bool) (atex11 : List (List CV)) (b12 : Bool) (b13 : Bool) : Option CV :=
  hold (E0 lb n 0 987 (sub (B F_r20_wrong) [1, 0, 1, 0, 1, 1, 1, 1, 1, 1, 1, 1, 1]) (condK (sub (B F_r20_wrong) [1, 0, 1, 0, 1, 1, 1, 1, 1, 1, 1, 0]) (sub (B F_r20_wrong) [1, 0, 1, 0, 1, 1, 1, 1, 1, 1, 1, 1]) (condK (sub (B F_r20_wrong) [1, 0, 1, 0, 1, 1, 1, 1, 1, 0]) (sub (B F_r20_wrong) [1, 0, 1, 0, 1, 1, 1, 1, 1, 1]) (condK (sub (B F_r20_wrong) [1, 0, 1, 0, 1, 1, 1, 0]) (sub (B F_r20_wrong) [1, 0, 1, 0, 1, 1, 1, 1]) (condK (sub (B F_r20_wrong) [1, 0, 1, 0, 1, 0]) (sub (B F_r20_wrong) [1, 0, 1, 0, 1, 1]) (blockK 0 (seqK (E0 lb n 0 998) (sub (B F_r20_wrong) [1, 0]) (sub (B F_r20_wrong) [1, 1]) (retK Tryz.prog (R F_r20_wrong) 0 (outK (tightF Tryz.prog F_r20_wrong))))))))) ⟨fr 76 [(0, .val (.agg [.int .i64 akin1, .list aln2 al3, .int .i64 aa4, .int .i64 ab5, .int .i64 aperfro6, .int .i64 aperto7, .int .i64 aperday9, .list atexn10 atex11])), (1, .ptr 0 1 0), (2, .val (.bool false)), (3, .ptr 0 1 0), (4, .val (.int .i64 akin1)), (5, .val (.bool b12)), (12, .val (.bool (akin1 == 4))), (13, .val (.bool (akin1 == 4))), (18, .val (.bool (akin1 == 7))), (19, .val (.bool (akin1 == 7))), (28, .val (.bool (akin1 == 8))), (29, .val (.bool (akin1 == 8))), (48, .val (.bool b13))], [bx 76 [(1, some [.val (.int .i64 akin1), .val (.list aln2 al3), .val (.int .i64 aa4), .val (.int .i64 ab5), .val (.int .i64 aperfro6), .val (.int .i64 aperto7), .val (.int .i64 aperday9), .val (.list atexn10 atex11)])]], KK⟩)

theorem r20_wrong_J2_eq (lb : Nat) (n : Nat) (akin1 : Int) (aln2 : Bool) (al3 : List (List CV)) (aa4 : Int) (ab5 : Int) (aperfro6 : Int) (aperto7 : Int) (aperday9 : Int) (atexn10 : Bool) (atex11 : List (List CV)) (b12 : Bool) (b13 : Bool) :
  r20_wrong_J2 lb n akin1 aln2 al3 aa4 ab5 aperfro6 aperto7 aperday9 atexn10 atex11 b12 b13 =
 bif b13 then
 (bif (decide (aa4 < 0)) then
 (some (.bool true))
 else
 (some (.bool (decide (aa4 > 6)))))
 else
 (bif (akin1 == 12) then
 (bif (decide (aa4 < 1)) then
 (some (.bool true))
 else
 (bif (decide (aa4 > ab5)) then
 (some (.bool true))
 else
 (some (.bool (decide (ab5 > 9999))))))
 else
 (some (.bool false))) := (hold_eq _).trans (by kernel_rfl)

theorem r20_wrong_J1_eq (lb : Nat) (n : Nat) (akin1 : Int) (aln2 : Bool) (al3 : List (List CV)) (aa4 : Int) (ab5 : Int) (aperfro6 : Int) (aperto7 : Int) (aperday9 : Int) (atexn10 : Bool) (atex11 : List (List CV)) (b12 : Bool) :
  r20_wrong_J1 lb n akin1 aln2 al3 aa4 ab5 aperfro6 aperto7 aperday9 atexn10 atex11 b12 =
 bif b12 then
 (some (.bool ((al3.length : Int) == 0)))
 else
 (bif (akin1 == 4) then
 (some (.bool ((al3.length : Int) != 1)))
 else
 (bif (akin1 == 7) then
 (bif (decide (aa4 < 0)) then
 (some (.bool true))
 else
 (some (.bool (decide (aa4 ≥ 36525)))))
 else
 (bif (akin1 == 8) then
 (bif (decide (aa4 < 0)) then
 (some (.bool true))
 else
 (bif (decide (aa4 ≥ 1440)) then
 (some (.bool true))
 else
 (bif (decide (ab5 < 0)) then
 (some (.bool true))
 else
 (some (.bool (decide (ab5 ≥ 1440)))))))
 else
 (bif (akin1 == 9) then
 (r20_wrong_J2 lb n akin1 aln2 al3 aa4 ab5 aperfro6 aperto7 aperday9 atexn10 atex11 b12 (akin1 == 9))
 else
 (r20_wrong_J2 lb n akin1 aln2 al3 aa4 ab5 aperfro6 aperto7 aperday9 atexn10 atex11 b12 (akin1 == 10)))))) := (hold_eq _).trans (by kernel_rfl)

theorem r20_wrong_eq (lb : Nat) (n : Nat) (akin1 : Int) (aln2 : Bool) (al3 : List (List CV)) (aa4 : Int) (ab5 : Int) (aperfro6 : Int) (aperto7 : Int) (aperday9 : Int) (atexn10 : Bool) (atex11 : List (List CV)) :
  top lb n F_r20_wrong [.agg [.int .i64 akin1, .list aln2 al3, .int .i64 aa4, .int .i64 ab5, .int .i64 aperfro6, .int .i64 aperto7, .int .i64 aperday9, .list atexn10 atex11]] =
 bif (akin1 == 2) then
 (r20_wrong_J1 lb n akin1 aln2 al3 aa4 ab5 aperfro6 aperto7 aperday9 atexn10 atex11 (akin1 == 2))
 else
 (r20_wrong_J1 lb n akin1 aln2 al3 aa4 ab5 aperfro6 aperto7 aperday9 atexn10 atex11 (akin1 == 3)) := by kernel_rfl

/-! airline/airlineref20.code -/
theorem r20_code_eq (lb : Nat) (n : Nat) (a1 : Int) (b2 : List UInt8) :
  top lb n F_r20_code [.int .i64 a1, .str b2] =
 bif (a1 == 11) then
 (optO (C lb n F_r01_Carrier [.str b2]) fun r3 =>
 some (r3))
 else
 (bif (a1 == 13) then
 (optO (C lb n F_r01_Airport [.str b2]) fun r4 =>
 some (r4))
 else
 (optO (C lb n F_r01_Code [.str b2, .int .i64 3, .int .i64 3]) fun r5 =>
 some (r5))) := by kernel_rfl

/-! airline/airlineref20.has -/
noncomputable def r20_has_L1 (lb : Nat) (n : Nat) (k12 : Nat) (an1 : Bool) (a2 : List (List CV)) (b3 : List UInt8) (i7 : Int) : Option CV :=
  hold (loopC (E0 lb n 0 995) 0 (loopTemps (sub (B F_r20_has) [1, 0, 1, 0, 0]) ++ []) [] (sub (B F_r20_has) [1, 0, 1, 0, 0]) (blockK 0 (seqK (E0 lb n 0 998) (sub (B F_r20_has) [1, 0]) (sub (B F_r20_has) [1, 1]) (retK Tryz.prog (R F_r20_has) 0 (outK (tightF Tryz.prog F_r20_has))))) k12 ⟨fr 18 [(0, .val (.list an1 a2)), (1, .val (.str b3)), (4, .val (.bool false)), (5, .val (.int .i64 i7))], [bx 18 []], KK⟩)

noncomputable def r20_has_J2 (lb : Nat) (n : Nat) (an1 : Bool) (a2 : List (List CV)) (b3 : List UInt8) (i17 : Int) : Option CV :=
  hold (E0 lb n 0 998 (sub (B F_r20_has) [1, 1]) (retK Tryz.prog (R F_r20_has) 0 (outK (tightF Tryz.prog F_r20_has))) ⟨fr 18 [(0, .val (.list an1 a2)), (1, .val (.str b3)), (4, .val (.bool false)), (5, .val (.int .i64 i17))], [bx 18 []], KK⟩)

theorem r20_has_J2_eq (lb : Nat) (n : Nat) (an1 : Bool) (a2 : List (List CV)) (b3 : List UInt8) (i17 : Int) :
  r20_has_J2 lb n an1 a2 b3 i17 =
 some (.bool false) := (hold_eq _).trans (by kernel_rfl)

theorem r20_has_L1_succ (lb : Nat) (n k12 : Nat) (an1 : Bool) (a2 : List (List CV)) (b3 : List UInt8) (i7 : Int) :
  r20_has_L1 lb n (k12 + 1) an1 a2 b3 i7 =
 bif (decide (i7 < (a2.length : Int))) then
 (optO (atL a2 i7) fun c13 =>
 chkO (c13.length == 1) (
 optO (c13[0]?) fun x14 =>
 optO (CV.asS x14) fun s15 =>
 bif (s15 == b3) then
 (some (.bool true))
 else
 (r20_has_L1 lb n k12 an1 a2 b3 (IntKind.wrap .i64 (i7 + 1)))))
 else
 (r20_has_J2 lb n an1 a2 b3 i7) := (hold_eq _).trans (by kernel_rfl)

theorem r20_has_L1_zero (lb : Nat) (n : Nat) (an1 : Bool) (a2 : List (List CV)) (b3 : List UInt8) (i7 : Int) :
  r20_has_L1 lb n 0 an1 a2 b3 i7 =
 none := (hold_eq _).trans (by kernel_rfl)

theorem r20_has_eq (lb : Nat) (n : Nat) (an1 : Bool) (a2 : List (List CV)) (b3 : List UInt8) :
  top lb n F_r20_has [.list an1 a2, .str b3] =
 r20_has_L1 lb n n an1 a2 b3 0 := by kernel_rfl

/-! airline/airlineref20.part -/
noncomputable def r20_part_L1 (lb : Nat) (n : Nat) (k40 : Nat) (akin1 : Int) (aln2 : Bool) (al3 : List (List CV)) (aa4 : Int) (ab5 : Int) (aperfro6 : Int) (aperto7 : Int) (aperday9 : Int) (atexn10 : Bool) (atex11 : List (List CV)) (i30 : Int) : Option CV :=
  hold (loopC (E0 lb n 0 990) 0 (loopTemps (sub (B F_r20_part) [1, 1, 1, 1, 1, 1, 0, 1, 0, 0]) ++ []) [] (sub (B F_r20_part) [1, 1, 1, 1, 1, 1, 0, 1, 0, 0]) (blockK 0 (seqK (E0 lb n 0 993) (sub (B F_r20_part) [1, 1, 1, 1, 1, 1, 0]) (sub (B F_r20_part) [1, 1, 1, 1, 1, 1, 1]) (retK Tryz.prog (R F_r20_part) 0 (outK (tightF Tryz.prog F_r20_part))))) k40 ⟨fr 57 [(0, .val (.agg [.int .i64 akin1, .list aln2 al3, .int .i64 aa4, .int .i64 ab5, .int .i64 aperfro6, .int .i64 aperto7, .int .i64 aperday9, .list atexn10 atex11])), (1, .ptr 0 1 0), (2, .val (.int .i64 0)), (3, .val (.int .i64 i30))], [bx 57 [(1, some [.val (.int .i64 akin1), .val (.list aln2 al3), .val (.int .i64 aa4), .val (.int .i64 ab5), .val (.int .i64 aperfro6), .val (.int .i64 aperto7), .val (.int .i64 aperday9), .val (.list atexn10 atex11)])]], KK⟩)

noncomputable def r20_part_J2 (lb : Nat) (n : Nat) (akin1 : Int) (aln2 : Bool) (al3 : List (List CV)) (aa4 : Int) (ab5 : Int) (aperfro6 : Int) (aperto7 : Int) (aperday9 : Int) (atexn10 : Bool) (atex11 : List (List CV)) (i49 : Int) : Option CV :=
  hold (E0 lb n 0 993 (sub (B F_r20_part) [1, 1, 1, 1, 1, 1, 1]) (retK Tryz.prog (R F_r20_part) 0 (outK (tightF Tryz.prog F_r20_part))) ⟨fr 57 [(0, .val (.agg [.int .i64 akin1, .list aln2 al3, .int .i64 aa4, .int .i64 ab5, .int .i64 aperfro6, .int .i64 aperto7, .int .i64 aperday9, .list atexn10 atex11])), (1, .ptr 0 1 0), (2, .val (.int .i64 0)), (3, .val (.int .i64 i49))], [bx 57 [(1, some [.val (.int .i64 akin1), .val (.list aln2 al3), .val (.int .i64 aa4), .val (.int .i64 ab5), .val (.int .i64 aperfro6), .val (.int .i64 aperto7), .val (.int .i64 aperday9), .val (.list atexn10 atex11)])]], KK⟩)

theorem r20_part_J2_eq (lb : Nat) (n : Nat) (akin1 : Int) (aln2 : Bool) (al3 : List (List CV)) (aa4 : Int) (ab5 : Int) (aperfro6 : Int) (aperto7 : Int) (aperday9 : Int) (atexn10 : Bool) (atex11 : List (List CV)) (i49 : Int) :
  r20_part_J2 lb n akin1 aln2 al3 aa4 ab5 aperfro6 aperto7 aperday9 atexn10 atex11 i49 =
 some (.int .i64 0) := (hold_eq _).trans (by kernel_rfl)

theorem r20_part_L1_succ (lb : Nat) (n k40 : Nat) (akin1 : Int) (aln2 : Bool) (al3 : List (List CV)) (aa4 : Int) (ab5 : Int) (aperfro6 : Int) (aperto7 : Int) (aperday9 : Int) (atexn10 : Bool) (atex11 : List (List CV)) (i30 : Int) :
  r20_part_L1 lb n (k40 + 1) akin1 aln2 al3 aa4 ab5 aperfro6 aperto7 aperday9 atexn10 atex11 i30 =
 bif (decide (i30 < (atex11.length : Int))) then
 (optO (atL atex11 i30) fun c41 =>
 chkO (c41.length == 1) (
 optO (c41[0]?) fun x42 =>
 optO (C lb n F_r20_code [.int .i64 akin1, x42]) fun r43 =>
 optO (CV.asB r43) fun b44 =>
 bif (!b44) then
 (some (.int .i64 5))
 else
 (chkO (atex11.all (·.length == 1)) (
 chkO (decide ((0 : Int) ≤ i30 ∧ i30 ≤ (atex11.length : Int))) (
 optO (atL atex11 i30) fun c45 =>
 chkO (c45.length == 1) (
 optO (c45[0]?) fun x46 =>
 optO (C lb n F_r20_has [.list atexn10 ((atex11.take i30.toNat).drop 0), x46]) fun r47 =>
 optO (CV.asB r47) fun b48 =>
 bif b48 then
 (some (.int .i64 6))
 else
 (r20_part_L1 lb n k40 akin1 aln2 al3 aa4 ab5 aperfro6 aperto7 aperday9 atexn10 atex11 (IntKind.wrap .i64 (i30 + 1)))))))))
 else
 (r20_part_J2 lb n akin1 aln2 al3 aa4 ab5 aperfro6 aperto7 aperday9 atexn10 atex11 i30) := (hold_eq _).trans (by kernel_rfl)

theorem r20_part_L1_zero (lb : Nat) (n : Nat) (akin1 : Int) (aln2 : Bool) (al3 : List (List CV)) (aa4 : Int) (ab5 : Int) (aperfro6 : Int) (aperto7 : Int) (aperday9 : Int) (atexn10 : Bool) (atex11 : List (List CV)) (i30 : Int) :
  r20_part_L1 lb n 0 akin1 aln2 al3 aa4 ab5 aperfro6 aperto7 aperday9 atexn10 atex11 i30 =
 none := (hold_eq _).trans (by kernel_rfl)

theorem r20_part_eq (lb : Nat) (n : Nat) (akin1 : Int) (aln2 : Bool) (al3 : List (List CV)) (aa4 : Int) (ab5 : Int) (aperfro6 : Int) (aperto7 : Int) (aperday9 : Int) (atexn10 : Bool) (atex11 : List (List CV)) :
  top lb n F_r20_part [.agg [.int .i64 akin1, .list aln2 al3, .int .i64 aa4, .int .i64 ab5, .int .i64 aperfro6, .int .i64 aperto7, .int .i64 aperday9, .list atexn10 atex11]] =
 bif (decide (akin1 < 1)) then
 (some (.int .i64 8))
 else
 (bif (decide (akin1 > 14)) then
 (some (.int .i64 8))
 else
 (optO (C lb n F_r20_extra [.agg [.int .i64 akin1, .list aln2 al3, .int .i64 aa4, .int .i64 ab5, .int .i64 aperfro6, .int .i64 aperto7, .int .i64 aperday9, .list atexn10 atex11]]) fun r12 =>
 optO (CV.asB r12) fun b13 =>
 bif b13 then
 (some (.int .i64 3))
 else
 (optO (C lb n F_r20_wrong [.agg [.int .i64 akin1, .list aln2 al3, .int .i64 aa4, .int .i64 ab5, .int .i64 aperfro6, .int .i64 aperto7, .int .i64 aperday9, .list atexn10 atex11]]) fun r14 =>
 optO (CV.asB r14) fun b15 =>
 bif b15 then
 (some (.int .i64 2))
 else
 (optO (C lb n F_r20_period [.int .i64 akin1]) fun r17 =>
 optO (CV.asB r17) fun b18 =>
 bif b18 then
 (optO (C lb n F_r04_Check [.agg [.int .i64 aperfro6, .int .i64 aperto7, .int .i64 aperday9]]) fun r19 =>
 some (r19))
 else
 (optO (C lb n F_r20_codes [.int .i64 akin1]) fun r20 =>
 optO (CV.asB r20) fun b21 =>
 bif b21 then
 (bif ((atex11.length : Int) == 0) then
 (some (.int .i64 2))
 else
 (r20_part_L1 lb n n akin1 aln2 al3 aa4 ab5 aperfro6 aperto7 aperday9 atexn10 atex11 0))
 else
 (r20_part_L1 lb n n akin1 aln2 al3 aa4 ab5 aperfro6 aperto7 aperday9 atexn10 atex11 0)))))) := by kernel_rfl

/-! airline/airlineref20.parts -/
noncomputable def r20_parts_L1 (lb : Nat) (n : Nat) (k39 : Nat) (akin1 : Int) (aln2 : Bool) (al3 : List (List CV)) (aa4 : Int) (ab5 : Int) (aperfro6 : Int) (aperto7 : Int) (aperday9 : Int) (atexn10 : Bool) (atex11 : List (List CV)) (r12 : CV) (i26 : Int) : Option CV :=
  hold (loopC (E0 lb n 0 994) 0 (loopTemps (sub (B F_r20_parts) [1, 1, 0, 1, 0, 0]) ++ [5]) [] (sub (B F_r20_parts) [1, 1, 0, 1, 0, 0]) (blockK 0 (seqK (E0 lb n 0 997) (sub (B F_r20_parts) [1, 1, 0]) (sub (B F_r20_parts) [1, 1, 1]) (retK Tryz.prog (R F_r20_parts) 0 (outK (tightF Tryz.prog F_r20_parts))))) k39 ⟨fr 27 [(0, .val (.agg [.int .i64 akin1, .list aln2 al3, .int .i64 aa4, .int .i64 ab5, .int .i64 aperfro6, .int .i64 aperto7, .int .i64 aperday9, .list atexn10 atex11])), (1, .ptr 0 1 0), (2, .val (.int .i64 0)), (3, .val r12), (4, .val (.int .i64 i26))], [bx 27 [(1, some [.val (.int .i64 akin1), .val (.list aln2 al3), .val (.int .i64 aa4), .val (.int .i64 ab5), .val (.int .i64 aperfro6), .val (.int .i64 aperto7), .val (.int .i64 aperday9), .val (.list atexn10 atex11)])]], KK⟩)

noncomputable def r20_parts_J2 (lb : Nat) (n : Nat) (akin1 : Int) (aln2 : Bool) (al3 : List (List CV)) (aa4 : Int) (ab5 : Int) (aperfro6 : Int) (aperto7 : Int) (aperday9 : Int) (atexn10 : Bool) (atex11 : List (List CV)) (r12 : CV) (i51 : Int) : Option CV :=
  hold (E0 lb n 0 997 (sub (B F_r20_parts) [1, 1, 1]) (retK Tryz.prog (R F_r20_parts) 0 (outK (tightF Tryz.prog F_r20_parts))) ⟨fr 27 [(0, .val (.agg [.int .i64 akin1, .list aln2 al3, .int .i64 aa4, .int .i64 ab5, .int .i64 aperfro6, .int .i64 aperto7, .int .i64 aperday9, .list atexn10 atex11])), (1, .ptr 0 1 0), (2, .val (.int .i64 0)), (3, .val r12), (4, .val (.int .i64 i51))], [bx 27 [(1, some [.val (.int .i64 akin1), .val (.list aln2 al3), .val (.int .i64 aa4), .val (.int .i64 ab5), .val (.int .i64 aperfro6), .val (.int .i64 aperto7), .val (.int .i64 aperday9), .val (.list atexn10 atex11)])]], KK⟩)

theorem r20_parts_J2_eq (lb : Nat) (n : Nat) (akin1 : Int) (aln2 : Bool) (al3 : List (List CV)) (aa4 : Int) (ab5 : Int) (aperfro6 : Int) (aperto7 : Int) (aperday9 : Int) (atexn10 : Bool) (atex11 : List (List CV)) (r12 : CV) (i51 : Int) :
  r20_parts_J2 lb n akin1 aln2 al3 aa4 ab5 aperfro6 aperto7 aperday9 atexn10 atex11 r12 i51 =
 some (.int .i64 0) := (hold_eq _).trans (by kernel_rfl)

theorem r20_parts_L1_succ (lb : Nat) (n k39 : Nat) (akin1 : Int) (aln2 : Bool) (al3 : List (List CV)) (aa4 : Int) (ab5 : Int) (aperfro6 : Int) (aperto7 : Int) (aperday9 : Int) (atexn10 : Bool) (atex11 : List (List CV)) (r12 : CV) (i26 : Int) :
  r20_parts_L1 lb n (k39 + 1) akin1 aln2 al3 aa4 ab5 aperfro6 aperto7 aperday9 atexn10 atex11 r12 i26 =
 bif (decide (i26 < (al3.length : Int))) then
 (optO (atL al3 i26) fun c40 =>
 chkO (c40.length == 8) (
 optO (c40[0]?) fun x41 =>
 optO (c40[1]?) fun x42 =>
 optO (c40[2]?) fun x43 =>
 optO (c40[3]?) fun x44 =>
 optO (c40[4]?) fun x45 =>
 optO (c40[5]?) fun x46 =>
 optO (c40[6]?) fun x47 =>
 optO (c40[7]?) fun x48 =>
 optO (C lb n F_r20_parts [.agg [x41, x42, x43, x44, x45, x46, x47, x48]]) fun r49 =>
 optO (CV.asI .i64 r49) fun i50 =>
 bif (i50 != 0) then
 (some (r49))
 else
 (r20_parts_L1 lb n k39 akin1 aln2 al3 aa4 ab5 aperfro6 aperto7 aperday9 atexn10 atex11 r12 (IntKind.wrap .i64 (i26 + 1)))))
 else
 (r20_parts_J2 lb n akin1 aln2 al3 aa4 ab5 aperfro6 aperto7 aperday9 atexn10 atex11 r12 i26) := (hold_eq _).trans (by kernel_rfl)

theorem r20_parts_L1_zero (lb : Nat) (n : Nat) (akin1 : Int) (aln2 : Bool) (al3 : List (List CV)) (aa4 : Int) (ab5 : Int) (aperfro6 : Int) (aperto7 : Int) (aperday9 : Int) (atexn10 : Bool) (atex11 : List (List CV)) (r12 : CV) (i26 : Int) :
  r20_parts_L1 lb n 0 akin1 aln2 al3 aa4 ab5 aperfro6 aperto7 aperday9 atexn10 atex11 r12 i26 =
 none := (hold_eq _).trans (by kernel_rfl)

theorem r20_parts_eq (lb : Nat) (n : Nat) (akin1 : Int) (aln2 : Bool) (al3 : List (List CV)) (aa4 : Int) (ab5 : Int) (aperfro6 : Int) (aperto7 : Int) (aperday9 : Int) (atexn10 : Bool) (atex11 : List (List CV)) :
  top lb n F_r20_parts [.agg [.int .i64 akin1, .list aln2 al3, .int .i64 aa4, .int .i64 ab5, .int .i64 aperfro6, .int .i64 aperto7, .int .i64 aperday9, .list atexn10 atex11]] =
 optO (C lb n F_r20_part [.agg [.int .i64 akin1, .list aln2 al3, .int .i64 aa4, .int .i64 ab5, .int .i64 aperfro6, .int .i64 aperto7, .int .i64 aperday9, .list atexn10 atex11]]) fun r12 =>
 optO (CV.asI .i64 r12) fun i13 =>
 bif (i13 != 0) then
 (some (r12))
 else
 (r20_parts_L1 lb n n akin1 aln2 al3 aa4 ab5 aperfro6 aperto7 aperday9 atexn10 atex11 r12 0) := by kernel_rfl

/-! airline/airlineref20.Check -/
theorem r20_Check_eq (lb : Nat) (n : Nat) (akin1 : Int) (aln2 : Bool) (al3 : List (List CV)) (aa4 : Int) (ab5 : Int) (aperfro6 : Int) (aperto7 : Int) (aperday9 : Int) (atexn10 : Bool) (atex11 : List (List CV)) :
  top lb n F_r20_Check [.agg [.int .i64 akin1, .list aln2 al3, .int .i64 aa4, .int .i64 ab5, .int .i64 aperfro6, .int .i64 aperto7, .int .i64 aperday9, .list atexn10 atex11]] =
 optO (C lb n F_r20_levels [.agg [.int .i64 akin1, .list aln2 al3, .int .i64 aa4, .int .i64 ab5, .int .i64 aperfro6, .int .i64 aperto7, .int .i64 aperday9, .list atexn10 atex11]]) fun r12 =>
 optO (CV.asI .i64 r12) fun i13 =>
 bif (decide (i13 > 8)) then
 (some (.int .i64 4))
 else
 (optO (C lb n F_r20_Size [.agg [.int .i64 akin1, .list aln2 al3, .int .i64 aa4, .int .i64 ab5, .int .i64 aperfro6, .int .i64 aperto7, .int .i64 aperday9, .list atexn10 atex11]]) fun r14 =>
 optO (CV.asI .i64 r14) fun i15 =>
 bif (decide (i15 > 128)) then
 (some (.int .i64 4))
 else
 (optO (C lb n F_r20_parts [.agg [.int .i64 akin1, .list aln2 al3, .int .i64 aa4, .int .i64 ab5, .int .i64 aperfro6, .int .i64 aperto7, .int .i64 aperday9, .list atexn10 atex11]]) fun r17 =>
 some (r17))) := by kernel_rfl

/-! airline/cond.parts -/
noncomputable def cond_parts_L1 (lb : Nat) (n : Nat) (k39 : Nat) (akin1 : Int) (aln2 : Bool) (al3 : List (List CV)) (aa4 : Int) (ab5 : Int) (aperfro6 : Int) (aperto7 : Int) (aperday9 : Int) (atexn10 : Bool) (atex11 : List (List CV)) (r12 : CV) (i26 : Int) : Option CV :=
  hold (loopC (E0 lb n 0 994) 0 (loopTemps (sub (B F_cond_parts) [1, 1, 0, 1, 0, 0]) ++ [6]) [5] (sub (B F_cond_parts) [1, 1, 0, 1, 0, 0]) (blockK 0 (seqK (E0 lb n 0 997) (sub (B F_cond_parts) [1, 1, 0]) (sub (B F_cond_parts) [1, 1, 1]) (retK Tryz.prog (R F_cond_parts) 0 (outK (tightF Tryz.prog F_cond_parts))))) k39 ⟨fr 25 [(0, .val (.agg [.int .i64 akin1, .list aln2 al3, .int .i64 aa4, .int .i64 ab5, .int .i64 aperfro6, .int .i64 aperto7, .int .i64 aperday9, .list atexn10 atex11])), (1, .ptr 0 1 0), (2, .val (.int .i64 0)), (3, .val r12), (12, .ptr 0 1 1), (13, .val (.list aln2 al3)), (14, .val (.int .i64 (al3.length : Int))), (15, .val (.int .i64 i26))], [bx 25 [(1, some [.val (.int .i64 akin1), .val (.list aln2 al3), .val (.int .i64 aa4), .val (.int .i64 ab5), .val (.int .i64 aperfro6), .val (.int .i64 aperto7), .val (.int .i64 aperday9), .val (.list atexn10 atex11)])]], KK⟩)

noncomputable def cond_parts_J2 (lb : Nat) (n : Nat) (akin1 : Int) (aln2 : Bool) (al3 : List (List CV)) (aa4 : Int) (ab5 : Int) (aperfro6 : Int) (aperto7 : Int) (aperday9 : Int) (atexn10 : Bool) (atex11 : List (List CV)) (r12 : CV) : Option CV :=
  hold (E0 lb n 0 997 (sub (B F_cond_parts) [1, 1, 1]) (retK Tryz.prog (R F_cond_parts) 0 (outK (tightF Tryz.prog F_cond_parts))) ⟨fr 25 [(0, .val (.agg [.int .i64 akin1, .list aln2 al3, .int .i64 aa4, .int .i64 ab5, .int .i64 aperfro6, .int .i64 aperto7, .int .i64 aperday9, .list atexn10 atex11])), (1, .ptr 0 1 0), (2, .val (.int .i64 0)), (3, .val r12)], [bx 25 [(1, some [.val (.int .i64 akin1), .val (.list aln2 al3), .val (.int .i64 aa4), .val (.int .i64 ab5), .val (.int .i64 aperfro6), .val (.int .i64 aperto7), .val (.int .i64 aperday9), .val (.list atexn10 atex11)])]], KK⟩)

theorem cond_parts_J2_eq (lb : Nat) (n : Nat) (akin1 : Int) (aln2 : Bool) (al3 : List (List CV)) (aa4 : Int) (ab5 : Int) (aperfro6 : Int) (aperto7 : Int) (aperday9 : Int) (atexn10 : Bool) (atex11 : List (List CV)) (r12 : CV) :
  cond_parts_J2 lb n akin1 aln2 al3 aa4 ab5 aperfro6 aperto7 aperday9 atexn10 atex11 r12 =
 some (.int .i64 0) := (hold_eq _).trans (by kernel_rfl)

theorem cond_parts_L1_succ (lb : Nat) (n k39 : Nat) (akin1 : Int) (aln2 : Bool) (al3 : List (List CV)) (aa4 : Int) (ab5 : Int) (aperfro6 : Int) (aperto7 : Int) (aperday9 : Int) (atexn10 : Bool) (atex11 : List (List CV)) (r12 : CV) (i26 : Int) :
  cond_parts_L1 lb n (k39 + 1) akin1 aln2 al3 aa4 ab5 aperfro6 aperto7 aperday9 atexn10 atex11 r12 i26 =
 bif (decide (i26 < (al3.length : Int))) then
 (optO (atL al3 i26) fun c40 =>
 chkO (c40.length == 8) (
 optO (c40[0]?) fun x41 =>
 optO (c40[1]?) fun x42 =>
 optO (c40[2]?) fun x43 =>
 optO (c40[3]?) fun x44 =>
 optO (c40[4]?) fun x45 =>
 optO (c40[5]?) fun x46 =>
 optO (c40[6]?) fun x47 =>
 optO (c40[7]?) fun x48 =>
 optO (C lb n F_cond_parts [.agg [x41, x42, x43, x44, x45, x46, x47, x48]]) fun r49 =>
 optO (CV.asI .i64 r49) fun i50 =>
 bif (i50 != 0) then
 (some (r49))
 else
 (cond_parts_L1 lb n k39 akin1 aln2 al3 aa4 ab5 aperfro6 aperto7 aperday9 atexn10 atex11 r12 (IntKind.wrap .i64 (i26 + 1)))))
 else
 (cond_parts_J2 lb n akin1 aln2 al3 aa4 ab5 aperfro6 aperto7 aperday9 atexn10 atex11 r12 ) := (hold_eq _).trans (by kernel_rfl)

theorem cond_parts_L1_zero (lb : Nat) (n : Nat) (akin1 : Int) (aln2 : Bool) (al3 : List (List CV)) (aa4 : Int) (ab5 : Int) (aperfro6 : Int) (aperto7 : Int) (aperday9 : Int) (atexn10 : Bool) (atex11 : List (List CV)) (r12 : CV) (i26 : Int) :
  cond_parts_L1 lb n 0 akin1 aln2 al3 aa4 ab5 aperfro6 aperto7 aperday9 atexn10 atex11 r12 i26 =
 none := (hold_eq _).trans (by kernel_rfl)

theorem cond_parts_eq (lb : Nat) (n : Nat) (akin1 : Int) (aln2 : Bool) (al3 : List (List CV)) (aa4 : Int) (ab5 : Int) (aperfro6 : Int) (aperto7 : Int) (aperday9 : Int) (atexn10 : Bool) (atex11 : List (List CV)) :
  top lb n F_cond_parts [.agg [.int .i64 akin1, .list aln2 al3, .int .i64 aa4, .int .i64 ab5, .int .i64 aperfro6, .int .i64 aperto7, .int .i64 aperday9, .list atexn10 atex11]] =
 optO (C lb n F_cond_part [.agg [.int .i64 akin1, .list aln2 al3, .int .i64 aa4, .int .i64 ab5, .int .i64 aperfro6, .int .i64 aperto7, .int .i64 aperday9, .list atexn10 atex11]]) fun r12 =>
 optO (CV.asI .i64 r12) fun i13 =>
 bif (i13 != 0) then
 (some (r12))
 else
 (cond_parts_L1 lb n n akin1 aln2 al3 aa4 ab5 aperfro6 aperto7 aperday9 atexn10 atex11 r12 0) := by kernel_rfl

/-! airline/cond.Check -/
theorem cond_Check_eq (lb : Nat) (n : Nat) (akin1 : Int) (aln2 : Bool) (al3 : List (List CV)) (aa4 : Int) (ab5 : Int) (aperfro6 : Int) (aperto7 : Int) (aperday9 : Int) (atexn10 : Bool) (atex11 : List (List CV)) :
  top lb n F_cond_Check [.agg [.int .i64 akin1, .list aln2 al3, .int .i64 aa4, .int .i64 ab5, .int .i64 aperfro6, .int .i64 aperto7, .int .i64 aperday9, .list atexn10 atex11]] =
 optO (C lb n F_cond_levels [.agg [.int .i64 akin1, .list aln2 al3, .int .i64 aa4, .int .i64 ab5, .int .i64 aperfro6, .int .i64 aperto7, .int .i64 aperday9, .list atexn10 atex11]]) fun r12 =>
 optO (CV.asI .i64 r12) fun i13 =>
 bif (decide (i13 > 8)) then
 (some (.int .i64 4))
 else
 (optO (C lb n F_cond_Size [.agg [.int .i64 akin1, .list aln2 al3, .int .i64 aa4, .int .i64 ab5, .int .i64 aperfro6, .int .i64 aperto7, .int .i64 aperday9, .list atexn10 atex11]]) fun r14 =>
 optO (CV.asI .i64 r14) fun i15 =>
 bif (decide (i15 > 128)) then
 (some (.int .i64 4))
 else
 (optO (C lb n F_cond_parts [.agg [.int .i64 akin1, .list aln2 al3, .int .i64 aa4, .int .i64 ab5, .int .i64 aperfro6, .int .i64 aperto7, .int .i64 aperday9, .list atexn10 atex11]]) fun r17 =>
 some (r17))) := by kernel_rfl

/-! slices.Contains[[]string,string] -/
theorem slices_Contains_string_eq (lb : Nat) (n : Nat) (an1 : Bool) (a2 : List (List CV)) (b3 : List UInt8) :
  top lb n F_slices_Contains_string [.list an1 a2, .str b3] =
 optO (C lb n F_slices_Index_string [.list an1 a2, .str b3]) fun r4 =>
 optO (CV.asI .i64 r4) fun i5 =>
 some (.bool (decide (i5 ≥ 0))) := by kernel_rfl

/-! slices.Index[[]string,string] -/
noncomputable def slices_Index_string_L1 (lb : Nat) (n : Nat) (k12 : Nat) (an1 : Bool) (a2 : List (List CV)) (b3 : List UInt8) (i7 : Int) : Option CV :=
  hold (loopC (E0 lb n 0 995) 0 (loopTemps (sub (B F_slices_Index_string) [1, 0, 1, 0, 0]) ++ [5]) [] (sub (B F_slices_Index_string) [1, 0, 1, 0, 0]) (blockK 0 (seqK (E0 lb n 0 998) (sub (B F_slices_Index_string) [1, 0]) (sub (B F_slices_Index_string) [1, 1]) (retK Tryz.prog (R F_slices_Index_string) 0 (outK (tightF Tryz.prog F_slices_Index_string))))) k12 ⟨fr 19 [(0, .val (.list an1 a2)), (1, .val (.str b3)), (4, .val (.int .i64 0)), (6, .val (.list an1 a2)), (7, .val (.int .i64 (a2.length : Int))), (8, .val (.int .i64 i7))], [bx 19 []], KK⟩)

noncomputable def slices_Index_string_J2 (lb : Nat) (n : Nat) (an1 : Bool) (a2 : List (List CV)) (b3 : List UInt8) : Option CV :=
  hold (E0 lb n 0 998 (sub (B F_slices_Index_string) [1, 1]) (retK Tryz.prog (R F_slices_Index_string) 0 (outK (tightF Tryz.prog F_slices_Index_string))) ⟨fr 19 [(0, .val (.list an1 a2)), (1, .val (.str b3)), (4, .val (.int .i64 0))], [bx 19 []], KK⟩)

theorem slices_Index_string_J2_eq (lb : Nat) (n : Nat) (an1 : Bool) (a2 : List (List CV)) (b3 : List UInt8) :
  slices_Index_string_J2 lb n an1 a2 b3 =
 some (.int .i64 (-1)) := (hold_eq _).trans (by kernel_rfl)

theorem slices_Index_string_L1_succ (lb : Nat) (n k12 : Nat) (an1 : Bool) (a2 : List (List CV)) (b3 : List UInt8) (i7 : Int) :
  slices_Index_string_L1 lb n (k12 + 1) an1 a2 b3 i7 =
 bif (decide (i7 < (a2.length : Int))) then
 (optO (atL a2 i7) fun c13 =>
 chkO (c13.length == 1) (
 optO (c13[0]?) fun x14 =>
 optO (CV.asS x14) fun s15 =>
 bif (b3 == s15) then
 (some (.int .i64 i7))
 else
 (slices_Index_string_L1 lb n k12 an1 a2 b3 (IntKind.wrap .i64 (i7 + 1)))))
 else
 (slices_Index_string_J2 lb n an1 a2 b3 ) := (hold_eq _).trans (by kernel_rfl)

theorem slices_Index_string_L1_zero (lb : Nat) (n : Nat) (an1 : Bool) (a2 : List (List CV)) (b3 : List UInt8) (i7 : Int) :
  slices_Index_string_L1 lb n 0 an1 a2 b3 i7 =
 none := (hold_eq _).trans (by kernel_rfl)

theorem slices_Index_string_eq (lb : Nat) (n : Nat) (an1 : Bool) (a2 : List (List CV)) (b3 : List UInt8) :
  top lb n F_slices_Index_string [.list an1 a2, .str b3] =
 slices_Index_string_L1 lb n n an1 a2 b3 0 := by kernel_rfl

end Go.Proofs
