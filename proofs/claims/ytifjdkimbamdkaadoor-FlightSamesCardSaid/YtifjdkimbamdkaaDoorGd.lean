/- Equations of functions, printed by program. Conditions: none. -/
import Derived.Test.YtifjdkimbamdkaaDoorEv
namespace Go.Proofs
open Go.Am
set_option maxRecDepth 100000
set_option linter.unusedVariables false
/-! airline/airlinelaw07.FlightOrder -/
noncomputable def l07_FlightOrder_L1 (lb : Bool) (n : Nat) (k66 : Nat) (aairn1 : Bool) (aair2 : List (List CV)) (adisn3 : Bool) (adis4 : List (List CV)) (bcar5 : List UInt8) (bnum6 : Int) (bperfro7 : Int) (bperto9 : Int) (bperday10 : Int) (blegn11 : Bool) (bleg12 : List (List CV)) (c13 : Int) (x26 : CV) (x28 : CV) (r24 : CV) (i39 : Int) : Option CV :=
  hold (loopC (E0 lb n 0 993) 0 (loopTemps (sub (B F_l07_FlightOrder) [1, 1, 1, 0, 1, 0, 0]) ++ []) [] (sub (B F_l07_FlightOrder) [1, 1, 1, 0, 1, 0, 0]) (blockK 0 (seqK (E0 lb n 0 996) (sub (B F_l07_FlightOrder) [1, 1, 1, 0]) (sub (B F_l07_FlightOrder) [1, 1, 1, 1]) (retK Tryd.prog (R F_l07_FlightOrder) 0 (outK (tightF Tryd.prog F_l07_FlightOrder))))) k66 ⟨fr 95 [(0, .val (.agg [.list aairn1 aair2, .list adisn3 adis4])), (1, .val (.agg [.str bcar5, .int .i64 bnum6, .int .i64 bperfro7, .int .i64 bperto9, .int .i64 bperday10, .list blegn11 bleg12])), (2, .val (.int .i64 c13)), (3, .ptr 0 3 0), (4, .ptr 0 4 0), (6, .val (.bool false)), (7, .val x26), (8, .val x28), (9, .val (.int .i64 i39)), (27, .val r24), (28, .val (.agg [.list aairn1 aair2, .list adisn3 adis4])), (29, .val (.agg [.str bcar5, .int .i64 bnum6, .int .i64 bperfro7, .int .i64 bperto9, .int .i64 bperday10, .list blegn11 bleg12])), (30, .val (.int .i64 c13)), (31, .val r24), (32, .val x26), (33, .val x28)], [bx 95 [(3, some [.val (.list aairn1 aair2), .val (.list adisn3 adis4)]), (4, some [.val (.str bcar5), .val (.int .i64 bnum6), .val (.int .i64 bperfro7), .val (.int .i64 bperto9), .val (.int .i64 bperday10), .val (.list blegn11 bleg12)])]], KK⟩)

noncomputable def l07_FlightOrder_J2 (lb : Bool) (n : Nat) (aairn1 : Bool) (aair2 : List (List CV)) (adisn3 : Bool) (adis4 : List (List CV)) (bcar5 : List UInt8) (bnum6 : Int) (bperfro7 : Int) (bperto9 : Int) (bperday10 : Int) (blegn11 : Bool) (bleg12 : List (List CV)) (c13 : Int) (x26 : CV) (x28 : CV) (r24 : CV) (i92 : Int) : Option CV :=
  hold (E0 lb n 0 996 (sub (B F_l07_FlightOrder) [1, 1, 1, 1]) (retK Tryd.prog (R F_l07_FlightOrder) 0 (outK (tightF Tryd.prog F_l07_FlightOrder))) ⟨fr 95 [(0, .val (.agg [.list aairn1 aair2, .list adisn3 adis4])), (1, .val (.agg [.str bcar5, .int .i64 bnum6, .int .i64 bperfro7, .int .i64 bperto9, .int .i64 bperday10, .list blegn11 bleg12])), (2, .val (.int .i64 c13)), (3, .ptr 0 3 0), (4, .ptr 0 4 0), (6, .val (.bool false)), (7, .val x26), (8, .val x28), (9, .val (.int .i64 i92)), (27, .val r24), (28, .val (.agg [.list aairn1 aair2, .list adisn3 adis4])), (29, .val (.agg [.str bcar5, .int .i64 bnum6, .int .i64 bperfro7, .int .i64 bperto9, .int .i64 bperday10, .list blegn11 bleg12])), (30, .val (.int .i64 c13)), (31, .val r24), (32, .val x26), (33, .val x28)], [bx 95 [(3, some [.val (.list aairn1 aair2), .val (.list adisn3 adis4)]), (4, some [.val (.str bcar5), .val (.int .i64 bnum6), .val (.int .i64 bperfro7), .val (.int .i64 bperto9), .val (.int .i64 bperday10), .val (.list blegn11 bleg12)])]], KK⟩)

theorem l07_FlightOrder_J2_eq (lb : Bool) (n : Nat) (aairn1 : Bool) (aair2 : List (List CV)) (adisn3 : Bool) (adis4 : List (List CV)) (bcar5 : List UInt8) (bnum6 : Int) (bperfro7 : Int) (bperto9 : Int) (bperday10 : Int) (blegn11 : Bool) (bleg12 : List (List CV)) (c13 : Int) (x26 : CV) (x28 : CV) (r24 : CV) (i92 : Int) :
  l07_FlightOrder_J2 lb n aairn1 aair2 adisn3 adis4 bcar5 bnum6 bperfro7 bperto9 bperday10 blegn11 bleg12 c13 x26 x28 r24 i92 =
 optO (CV.asL x26) fun p93 =>
 optO (CV.asI .i64 x28) fun i94 =>
 bif (((p93.2.length : Int) == (bleg12.length : Int)) == (i94 == 0)) then
 (optO (C lb n F_l07_awake []) fun r95 =>
 some (r95))
 else
 (some (.bool false)) := (hold_eq _).trans (by kernel_rfl)

theorem l07_FlightOrder_L1_succ (lb : Bool) (n k66 : Nat) (aairn1 : Bool) (aair2 : List (List CV)) (adisn3 : Bool) (adis4 : List (List CV)) (bcar5 : List UInt8) (bnum6 : Int) (bperfro7 : Int) (bperto9 : Int) (bperday10 : Int) (blegn11 : Bool) (bleg12 : List (List CV)) (c13 : Int) (x26 : CV) (x28 : CV) (r24 : CV) (i39 : Int) :
  l07_FlightOrder_L1 lb n (k66 + 1) aairn1 aair2 adisn3 adis4 bcar5 bnum6 bperfro7 bperto9 bperday10 blegn11 bleg12 c13 x26 x28 r24 i39 =
 optO (CV.asL x26) fun p67 =>
 bif (decide (i39 < (p67.2.length : Int))) then
 (optO (CV.asL x26) fun p68 =>
 optO (atL p68.2 i39) fun c69 =>
 chkO (c69.length == 8) (
 optO (c69[5]?) fun x70 =>
 optO (CV.asL x26) fun p71 =>
 optO (atL p71.2 i39) fun c72 =>
 chkO (c72.length == 8) (
 optO (c72[6]?) fun x73 =>
 optO (CV.asI .i64 x70) fun i74 =>
 optO (CV.asI .i64 x73) fun i75 =>
 bif (decide (i74 ≥ i75)) then
 (some (.bool false))
 else
 (bif (decide (i39 > 0)) then
 (optO (CV.asL x26) fun p76 =>
 optO (atL p76.2 i39) fun c77 =>
 chkO (c77.length == 8) (
 optO (c77[5]?) fun x78 =>
 optO (CV.asL x26) fun p79 =>
 optO (atL p79.2 (IntKind.wrap .i64 (i39 - 1))) fun c80 =>
 chkO (c80.length == 8) (
 optO (c80[6]?) fun x81 =>
 optO (CV.asI .i64 x78) fun i82 =>
 optO (CV.asI .i64 x81) fun i83 =>
 bif (decide (i82 < i83)) then
 (some (.bool false))
 else
 (optO (CV.asL x26) fun p84 =>
 optO (atL p84.2 i39) fun c85 =>
 chkO (c85.length == 8) (
 optO (c85[3]?) fun x86 =>
 optO (CV.asL x26) fun p87 =>
 optO (atL p87.2 (IntKind.wrap .i64 (i39 - 1))) fun c88 =>
 chkO (c88.length == 8) (
 optO (c88[4]?) fun x89 =>
 optO (CV.asS x86) fun s90 =>
 optO (CV.asS x89) fun s91 =>
 bif (!(s90 == s91)) then
 (some (.bool false))
 else
 (l07_FlightOrder_L1 lb n k66 aairn1 aair2 adisn3 adis4 bcar5 bnum6 bperfro7 bperto9 bperday10 blegn11 bleg12 c13 x26 x28 r24 (IntKind.wrap .i64 (i39 + 1)))))))))
 else
 (l07_FlightOrder_L1 lb n k66 aairn1 aair2 adisn3 adis4 bcar5 bnum6 bperfro7 bperto9 bperday10 blegn11 bleg12 c13 x26 x28 r24 (IntKind.wrap .i64 (i39 + 1)))))))
 else
 (l07_FlightOrder_J2 lb n aairn1 aair2 adisn3 adis4 bcar5 bnum6 bperfro7 bperto9 bperday10 blegn11 bleg12 c13 x26 x28 r24 i39) := (hold_eq _).trans (by kernel_rfl)

theorem l07_FlightOrder_L1_zero (lb : Bool) (n : Nat) (aairn1 : Bool) (aair2 : List (List CV)) (adisn3 : Bool) (adis4 : List (List CV)) (bcar5 : List UInt8) (bnum6 : Int) (bperfro7 : Int) (bperto9 : Int) (bperday10 : Int) (blegn11 : Bool) (bleg12 : List (List CV)) (c13 : Int) (x26 : CV) (x28 : CV) (r24 : CV) (i39 : Int) :
  l07_FlightOrder_L1 lb n 0 aairn1 aair2 adisn3 adis4 bcar5 bnum6 bperfro7 bperto9 bperday10 blegn11 bleg12 c13 x26 x28 r24 i39 =
 none := (hold_eq _).trans (by kernel_rfl)

theorem l07_FlightOrder_eq (lb : Bool) (n : Nat) (aairn1 : Bool) (aair2 : List (List CV)) (adisn3 : Bool) (adis4 : List (List CV)) (bcar5 : List UInt8) (bnum6 : Int) (bperfro7 : Int) (bperto9 : Int) (bperday10 : Int) (blegn11 : Bool) (bleg12 : List (List CV)) (c13 : Int) :
  top lb n F_l07_FlightOrder [.agg [.list aairn1 aair2, .list adisn3 adis4], .agg [.str bcar5, .int .i64 bnum6, .int .i64 bperfro7, .int .i64 bperto9, .int .i64 bperday10, .list blegn11 bleg12], .int .i64 c13] =
 optO (C lb n F_r07_Big [.agg [.list aairn1 aair2, .list adisn3 adis4], .agg [.str bcar5, .int .i64 bnum6, .int .i64 bperfro7, .int .i64 bperto9, .int .i64 bperday10, .list blegn11 bleg12]]) fun r14 =>
 optO (CV.asB r14) fun b15 =>
 bif b15 then
 (optO (C lb n F_l07_awake []) fun r17 =>
 some (r17))
 else
 (optO (C lb n F_r06_Check [.agg [.list aairn1 aair2, .list adisn3 adis4]]) fun r18 =>
 optO (CV.asL r18) fun p19 =>
 bif (decide ((p19.2.length : Int) > 0)) then
 (optO (C lb n F_l07_awake []) fun r20 =>
 some (r20))
 else
 (optO (C lb n F_flight_Check [.agg [.list aairn1 aair2, .list adisn3 adis4], .agg [.str bcar5, .int .i64 bnum6, .int .i64 bperfro7, .int .i64 bperto9, .int .i64 bperday10, .list blegn11 bleg12]]) fun r21 =>
 optO (CV.asL r21) fun p22 =>
 bif (decide ((p22.2.length : Int) > 0)) then
 (optO (C lb n F_l07_awake []) fun r23 =>
 some (r23))
 else
 (optO (C lb n F_flight_Legs [.agg [.list aairn1 aair2, .list adisn3 adis4], .agg [.str bcar5, .int .i64 bnum6, .int .i64 bperfro7, .int .i64 bperto9, .int .i64 bperday10, .list blegn11 bleg12], .int .i64 c13]) fun r24 =>
 optO (CV.asT r24) fun t25 =>
 optO (t25[0]?) fun x26 =>
 optO (CV.asT r24) fun t27 =>
 optO (t27[1]?) fun x28 =>
 l07_FlightOrder_L1 lb n n aairn1 aair2 adisn3 adis4 bcar5 bnum6 bperfro7 bperto9 bperday10 blegn11 bleg12 c13 x26 x28 r24 0))) := by kernel_rfl

/-! airline/airlinelaw07.FlightSames -/
theorem l07_FlightSames_eq (lb : Bool) (n : Nat) (acar1 : List UInt8) (anum2 : Int) (aperfro3 : Int) (aperto4 : Int) (aperday5 : Int) (alegn6 : Bool) (aleg7 : List (List CV)) (bcar9 : List UInt8) (bnum10 : Int) (bperfro11 : Int) (bperto12 : Int) (bperday13 : Int) (blegn14 : Bool) (bleg15 : List (List CV)) :
  top lb n F_l07_FlightSames [.agg [.str acar1, .int .i64 anum2, .int .i64 aperfro3, .int .i64 aperto4, .int .i64 aperday5, .list alegn6 aleg7], .agg [.str bcar9, .int .i64 bnum10, .int .i64 bperfro11, .int .i64 bperto12, .int .i64 bperday13, .list blegn14 bleg15]] =
 optO (C lb n F_r07_Big [.agg [.list true [], .list true []], .agg [.str acar1, .int .i64 anum2, .int .i64 aperfro3, .int .i64 aperto4, .int .i64 aperday5, .list alegn6 aleg7]]) fun r17 =>
 optO (CV.asB r17) fun b18 =>
 bif b18 then
 (optO (C lb n F_l07_awake []) fun r19 =>
 some (r19))
 else
 (optO (C lb n F_r07_Big [.agg [.list true [], .list true []], .agg [.str bcar9, .int .i64 bnum10, .int .i64 bperfro11, .int .i64 bperto12, .int .i64 bperday13, .list blegn14 bleg15]]) fun r20 =>
 optO (CV.asB r20) fun b21 =>
 bif b21 then
 (optO (C lb n F_l07_awake []) fun r22 =>
 some (r22))
 else
 (optO (C lb n F_flight_Same [.agg [.str acar1, .int .i64 anum2, .int .i64 aperfro3, .int .i64 aperto4, .int .i64 aperday5, .list alegn6 aleg7], .agg [.str bcar9, .int .i64 bnum10, .int .i64 bperfro11, .int .i64 bperto12, .int .i64 bperday13, .list blegn14 bleg15]]) fun r23 =>
 optO (C lb n F_r07_Same [.agg [.str acar1, .int .i64 anum2, .int .i64 aperfro3, .int .i64 aperto4, .int .i64 aperday5, .list alegn6 aleg7], .agg [.str bcar9, .int .i64 bnum10, .int .i64 bperfro11, .int .i64 bperto12, .int .i64 bperday13, .list blegn14 bleg15]]) fun r24 =>
 optO (CV.asB r23) fun b25 =>
 optO (CV.asB r24) fun b26 =>
 bif (b25 == b26) then
 (optO (C lb n F_flight_Same [.agg [.str acar1, .int .i64 anum2, .int .i64 aperfro3, .int .i64 aperto4, .int .i64 aperday5, .list alegn6 aleg7], .agg [.str acar1, .int .i64 anum2, .int .i64 aperfro3, .int .i64 aperto4, .int .i64 aperday5, .list alegn6 aleg7]]) fun r27 =>
 optO (CV.asB r27) fun b28 =>
 bif b28 then
 (optO (C lb n F_l07_awake []) fun r29 =>
 some (r29))
 else
 (some (.bool false)))
 else
 (some (.bool false)))) := by kernel_rfl

/-! airline/flight.Same -/
theorem flight_Same_eq (lb : Bool) (n : Nat) (acar1 : List UInt8) (anum2 : Int) (aperfro3 : Int) (aperto4 : Int) (aperday5 : Int) (alegn6 : Bool) (aleg7 : List (List CV)) (bcar9 : List UInt8) (bnum10 : Int) (bperfro11 : Int) (bperto12 : Int) (bperday13 : Int) (blegn14 : Bool) (bleg15 : List (List CV)) :
  top lb n F_flight_Same [.agg [.str acar1, .int .i64 anum2, .int .i64 aperfro3, .int .i64 aperto4, .int .i64 aperday5, .list alegn6 aleg7], .agg [.str bcar9, .int .i64 bnum10, .int .i64 bperfro11, .int .i64 bperto12, .int .i64 bperday13, .list blegn14 bleg15]] =
 bif (acar1 == bcar9) then
 (bif (anum2 == bnum10) then
 (bif ((aperfro3 == bperfro11) && ((aperto4 == bperto12) && ((aperday5 == bperday13) && true))) then
 (optO (C lb n F_slices_Equal_api_Leg [.list alegn6 aleg7, .list blegn14 bleg15]) fun r17 =>
 some (r17))
 else
 (some (.bool false)))
 else
 (some (.bool false)))
 else
 (some (.bool false)) := by kernel_rfl

/-! airline/airlineref07.Same -/
theorem r07_Same_eq (lb : Bool) (n : Nat) (acar1 : List UInt8) (anum2 : Int) (aperfro3 : Int) (aperto4 : Int) (aperday5 : Int) (alegn6 : Bool) (aleg7 : List (List CV)) (bcar9 : List UInt8) (bnum10 : Int) (bperfro11 : Int) (bperto12 : Int) (bperday13 : Int) (blegn14 : Bool) (bleg15 : List (List CV)) :
  top lb n F_r07_Same [.agg [.str acar1, .int .i64 anum2, .int .i64 aperfro3, .int .i64 aperto4, .int .i64 aperday5, .list alegn6 aleg7], .agg [.str bcar9, .int .i64 bnum10, .int .i64 bperfro11, .int .i64 bperto12, .int .i64 bperday13, .list blegn14 bleg15]] =
 bif (acar1 == bcar9) then
 (bif (anum2 == bnum10) then
 (bif ((aperfro3 == bperfro11) && ((aperto4 == bperto12) && ((aperday5 == bperday13) && true))) then
 (optO (C lb n F_r07_SameLegs [.list alegn6 aleg7, .list blegn14 bleg15]) fun r17 =>
 some (r17))
 else
 (some (.bool false)))
 else
 (some (.bool false)))
 else
 (some (.bool false)) := by kernel_rfl

/-! airline/airlineref07.SameLegs -/
noncomputable def r07_SameLegs_L1 (lb : Bool) (n : Nat) (k53 : Nat) (an1 : Bool) (a2 : List (List CV)) (bn3 : Bool) (b4 : List (List CV)) (i29 : Int) : Option CV :=
  hold (loopC (E0 lb n 0 994) 0 (loopTemps (sub (B F_r07_SameLegs) [1, 1, 0, 1, 0, 0]) ++ []) [] (sub (B F_r07_SameLegs) [1, 1, 0, 1, 0, 0]) (blockK 0 (seqK (E0 lb n 0 997) (sub (B F_r07_SameLegs) [1, 1, 0]) (sub (B F_r07_SameLegs) [1, 1, 1]) (retK Tryd.prog (R F_r07_SameLegs) 0 (outK (tightF Tryd.prog F_r07_SameLegs))))) k53 ⟨fr 26 [(0, .val (.list an1 a2)), (1, .val (.list bn3 b4)), (4, .val (.bool false)), (5, .val (.int .i64 i29))], [bx 26 []], KK⟩)

noncomputable def r07_SameLegs_J2 (lb : Bool) (n : Nat) (an1 : Bool) (a2 : List (List CV)) (bn3 : Bool) (b4 : List (List CV)) (i77 : Int) : Option CV :=
  hold (E0 lb n 0 997 (sub (B F_r07_SameLegs) [1, 1, 1]) (retK Tryd.prog (R F_r07_SameLegs) 0 (outK (tightF Tryd.prog F_r07_SameLegs))) ⟨fr 26 [(0, .val (.list an1 a2)), (1, .val (.list bn3 b4)), (4, .val (.bool false)), (5, .val (.int .i64 i77))], [bx 26 []], KK⟩)

theorem r07_SameLegs_J2_eq (lb : Bool) (n : Nat) (an1 : Bool) (a2 : List (List CV)) (bn3 : Bool) (b4 : List (List CV)) (i77 : Int) :
  r07_SameLegs_J2 lb n an1 a2 bn3 b4 i77 =
 some (.bool true) := (hold_eq _).trans (by kernel_rfl)

theorem r07_SameLegs_L1_succ (lb : Bool) (n k53 : Nat) (an1 : Bool) (a2 : List (List CV)) (bn3 : Bool) (b4 : List (List CV)) (i29 : Int) :
  r07_SameLegs_L1 lb n (k53 + 1) an1 a2 bn3 b4 i29 =
 bif (decide (i29 < (a2.length : Int))) then
 (optO (atL a2 i29) fun c54 =>
 chkO (c54.length == 5) (
 optO (c54[0]?) fun x55 =>
 optO (c54[1]?) fun x56 =>
 optO (c54[2]?) fun x57 =>
 optO (c54[3]?) fun x58 =>
 optO (c54[4]?) fun x59 =>
 optO (atL b4 i29) fun c60 =>
 chkO (c60.length == 5) (
 optO (c60[0]?) fun x61 =>
 optO (c60[1]?) fun x62 =>
 optO (c60[2]?) fun x63 =>
 optO (c60[3]?) fun x65 =>
 optO (c60[4]?) fun x66 =>
 optO (CV.asS x55) fun s67 =>
 optO (CV.asS x61) fun s68 =>
 optO (CV.asS x56) fun s69 =>
 optO (CV.asS x62) fun s70 =>
 optO (CV.asI .i64 x57) fun i71 =>
 optO (CV.asI .i64 x63) fun i72 =>
 optO (CV.asI .i64 x58) fun i73 =>
 optO (CV.asI .i64 x65) fun i74 =>
 optO (CV.asS x59) fun s75 =>
 optO (CV.asS x66) fun s76 =>
 bif (!((s67 == s68) && ((s69 == s70) && ((i71 == i72) && ((i73 == i74) && ((s75 == s76) && true)))))) then
 (some (.bool false))
 else
 (r07_SameLegs_L1 lb n k53 an1 a2 bn3 b4 (IntKind.wrap .i64 (i29 + 1))))))
 else
 (r07_SameLegs_J2 lb n an1 a2 bn3 b4 i29) := (hold_eq _).trans (by kernel_rfl)

theorem r07_SameLegs_L1_zero (lb : Bool) (n : Nat) (an1 : Bool) (a2 : List (List CV)) (bn3 : Bool) (b4 : List (List CV)) (i29 : Int) :
  r07_SameLegs_L1 lb n 0 an1 a2 bn3 b4 i29 =
 none := (hold_eq _).trans (by kernel_rfl)

theorem r07_SameLegs_eq (lb : Bool) (n : Nat) (an1 : Bool) (a2 : List (List CV)) (bn3 : Bool) (b4 : List (List CV)) :
  top lb n F_r07_SameLegs [.list an1 a2, .list bn3 b4] =
 bif ((a2.length : Int) != (b4.length : Int)) then
 (some (.bool false))
 else
 (r07_SameLegs_L1 lb n n an1 a2 bn3 b4 0) := by kernel_rfl

/-! slices.Equal[[]airline/api.Leg,airline/api.Leg] -/
noncomputable def slices_Equal_api_Leg_L1 (lb : Bool) (n : Nat) (k53 : Nat) (an1 : Bool) (a2 : List (List CV)) (bn3 : Bool) (b4 : List (List CV)) (i29 : Int) : Option CV :=
  hold (loopC (E0 lb n 0 994) 0 (loopTemps (sub (B F_slices_Equal_api_Leg) [1, 1, 0, 1, 0, 0]) ++ [5]) [] (sub (B F_slices_Equal_api_Leg) [1, 1, 0, 1, 0, 0]) (blockK 0 (seqK (E0 lb n 0 997) (sub (B F_slices_Equal_api_Leg) [1, 1, 0]) (sub (B F_slices_Equal_api_Leg) [1, 1, 1]) (retK Tryd.prog (R F_slices_Equal_api_Leg) 0 (outK (tightF Tryd.prog F_slices_Equal_api_Leg))))) k53 ⟨fr 26 [(0, .val (.list an1 a2)), (1, .val (.list bn3 b4)), (4, .val (.bool false)), (11, .val (.list an1 a2)), (12, .val (.int .i64 (a2.length : Int))), (13, .val (.int .i64 i29))], [bx 26 []], KK⟩)

noncomputable def slices_Equal_api_Leg_J2 (lb : Bool) (n : Nat) (an1 : Bool) (a2 : List (List CV)) (bn3 : Bool) (b4 : List (List CV)) : Option CV :=
  hold (E0 lb n 0 997 (sub (B F_slices_Equal_api_Leg) [1, 1, 1]) (retK Tryd.prog (R F_slices_Equal_api_Leg) 0 (outK (tightF Tryd.prog F_slices_Equal_api_Leg))) ⟨fr 26 [(0, .val (.list an1 a2)), (1, .val (.list bn3 b4)), (4, .val (.bool false))], [bx 26 []], KK⟩)

theorem slices_Equal_api_Leg_J2_eq (lb : Bool) (n : Nat) (an1 : Bool) (a2 : List (List CV)) (bn3 : Bool) (b4 : List (List CV)) :
  slices_Equal_api_Leg_J2 lb n an1 a2 bn3 b4 =
 some (.bool true) := (hold_eq _).trans (by kernel_rfl)

theorem slices_Equal_api_Leg_L1_succ (lb : Bool) (n k53 : Nat) (an1 : Bool) (a2 : List (List CV)) (bn3 : Bool) (b4 : List (List CV)) (i29 : Int) :
  slices_Equal_api_Leg_L1 lb n (k53 + 1) an1 a2 bn3 b4 i29 =
 bif (decide (i29 < (a2.length : Int))) then
 (optO (atL a2 i29) fun c54 =>
 chkO (c54.length == 5) (
 optO (c54[0]?) fun x55 =>
 optO (c54[1]?) fun x56 =>
 optO (c54[2]?) fun x57 =>
 optO (c54[3]?) fun x58 =>
 optO (c54[4]?) fun x59 =>
 optO (atL b4 i29) fun c60 =>
 chkO (c60.length == 5) (
 optO (c60[0]?) fun x61 =>
 optO (c60[1]?) fun x62 =>
 optO (c60[2]?) fun x63 =>
 optO (c60[3]?) fun x65 =>
 optO (c60[4]?) fun x66 =>
 optO (CV.asS x55) fun s67 =>
 optO (CV.asS x61) fun s68 =>
 optO (CV.asS x56) fun s69 =>
 optO (CV.asS x62) fun s70 =>
 optO (CV.asI .i64 x57) fun i71 =>
 optO (CV.asI .i64 x63) fun i72 =>
 optO (CV.asI .i64 x58) fun i73 =>
 optO (CV.asI .i64 x65) fun i74 =>
 optO (CV.asS x59) fun s75 =>
 optO (CV.asS x66) fun s76 =>
 bif (!((s67 == s68) && ((s69 == s70) && ((i71 == i72) && ((i73 == i74) && ((s75 == s76) && true)))))) then
 (some (.bool false))
 else
 (slices_Equal_api_Leg_L1 lb n k53 an1 a2 bn3 b4 (IntKind.wrap .i64 (i29 + 1))))))
 else
 (slices_Equal_api_Leg_J2 lb n an1 a2 bn3 b4 ) := (hold_eq _).trans (by kernel_rfl)

theorem slices_Equal_api_Leg_L1_zero (lb : Bool) (n : Nat) (an1 : Bool) (a2 : List (List CV)) (bn3 : Bool) (b4 : List (List CV)) (i29 : Int) :
  slices_Equal_api_Leg_L1 lb n 0 an1 a2 bn3 b4 i29 =
 none := (hold_eq _).trans (by kernel_rfl)

theorem slices_Equal_api_Leg_eq (lb : Bool) (n : Nat) (an1 : Bool) (a2 : List (List CV)) (bn3 : Bool) (b4 : List (List CV)) :
  top lb n F_slices_Equal_api_Leg [.list an1 a2, .list bn3 b4] =
 bif ((a2.length : Int) != (b4.length : Int)) then
 (some (.bool false))
 else
 (slices_Equal_api_Leg_L1 lb n n an1 a2 bn3 b4 0) := by kernel_rfl

end Go.Proofs
