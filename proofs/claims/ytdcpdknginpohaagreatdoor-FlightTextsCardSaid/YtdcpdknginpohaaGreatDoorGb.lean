/- Equations of functions, printed by program. Conditions: none. -/
import Derived.Test.YtdcpdknginpohaaGreatDoorEv
namespace Go.Proofs
open Go.Am
set_option maxRecDepth 100000
set_option linter.unusedVariables false
/-! airline/flight.leg -/
/-! airline/flight.follows -/
/-! airline/airlineref07.broken -/
/-! airline/airlineref07.head -/
noncomputable def r07_head_J1 (lb : Nat) (n : Nat) (acar1 : List UInt8) (anum2 : Int) (aperfro3 : Int) (aperto4 : Int) (aperday5 : Int) (alegn6 : Bool) (aleg7 : List (List CV)) (b11 : Bool) (l12 : List (List CV)) : Option CV :=
  hold (E0 lb n 0 997 (sub (B F_r07_head) [1, 1, 1]) (retOwn (R F_r07_head) 83) ⟨fr 50 [(0, .val (.agg [.str acar1, .int .i64 anum2, .int .i64 aperfro3, .int .i64 aperto4, .int .i64 aperday5, .list alegn6 aleg7])), (1, .ptr 0 1 0), (2, .lst true true 83 []), (3, .lst true b11 83 l12)], [bx 50 [(1, some [.val (.str acar1), .val (.int .i64 anum2), .val (.int .i64 aperfro3), .val (.int .i64 aperto4), .val (.int .i64 aperday5), .val (.list alegn6 aleg7)])]], KK⟩)

noncomputable def r07_head_J2 (lb : Nat) (n : Nat) (acar1 : List UInt8) (anum2 : Int) (aperfro3 : Int) (aperto4 : Int) (aperday5 : Int) (alegn6 : Bool) (aleg7 : List (List CV)) (b13 : Bool) (l14 : List (List CV)) : Option CV :=
  hold (E0 lb n 0 996 (sub (B F_r07_head) [1, 1, 1, 1]) (retOwn (R F_r07_head) 83) ⟨fr 50 [(0, .val (.agg [.str acar1, .int .i64 anum2, .int .i64 aperfro3, .int .i64 aperto4, .int .i64 aperday5, .list alegn6 aleg7])), (1, .ptr 0 1 0), (2, .lst true true 83 []), (3, .lst true b13 83 l14)], [bx 50 [(1, some [.val (.str acar1), .val (.int .i64 anum2), .val (.int .i64 aperfro3), .val (.int .i64 aperto4), .val (.int .i64 aperday5), .val (.list alegn6 aleg7)])]], KK⟩)

noncomputable def r07_head_J3 (lb : Nat) (n : Nat) (acar1 : List UInt8) (anum2 : Int) (aperfro3 : Int) (aperto4 : Int) (aperday5 : Int) (alegn6 : Bool) (aleg7 : List (List CV)) (b19 : Bool) (l20 : List (List CV)) : Option CV :=
  hold (E0 lb n 0 995 (sub (B F_r07_head) [1, 1, 1, 1, 1]) (retOwn (R F_r07_head) 83) ⟨fr 50 [(0, .val (.agg [.str acar1, .int .i64 anum2, .int .i64 aperfro3, .int .i64 aperto4, .int .i64 aperday5, .list alegn6 aleg7])), (1, .ptr 0 1 0), (2, .lst true true 83 []), (3, .lst true b19 83 l20)], [bx 50 [(1, some [.val (.str acar1), .val (.int .i64 anum2), .val (.int .i64 aperfro3), .val (.int .i64 aperto4), .val (.int .i64 aperday5), .val (.list alegn6 aleg7)])]], KK⟩)

theorem r07_head_J3_eq (lb : Nat) (n : Nat) (acar1 : List UInt8) (anum2 : Int) (aperfro3 : Int) (aperto4 : Int) (aperday5 : Int) (alegn6 : Bool) (aleg7 : List (List CV)) (b19 : Bool) (l20 : List (List CV)) :
  r07_head_J3 lb n acar1 anum2 aperfro3 aperto4 aperday5 alegn6 aleg7 b19 l20 =
 bif (decide ((aleg7.length : Int) < 1)) then
 (chkO (room (l20.length + 1) 24) (
 some (.list (b19 && false) (l20 ++ [[CV.int .i64 4, CV.str [108, 101, 103, 115]]]))))
 else
 (bif (decide ((aleg7.length : Int) > 6)) then
 (chkO (room (l20.length + 1) 24) (
 some (.list (b19 && false) (l20 ++ [[CV.int .i64 4, CV.str [108, 101, 103, 115]]]))))
 else
 (some (.list b19 l20))) := (hold_eq _).trans (by kernel_rfl)

theorem r07_head_J2_eq (lb : Nat) (n : Nat) (acar1 : List UInt8) (anum2 : Int) (aperfro3 : Int) (aperto4 : Int) (aperday5 : Int) (alegn6 : Bool) (aleg7 : List (List CV)) (b13 : Bool) (l14 : List (List CV)) :
  r07_head_J2 lb n acar1 anum2 aperfro3 aperto4 aperday5 alegn6 aleg7 b13 l14 =
 optO (C lb n F_r04_Check [.agg [.int .i64 aperfro3, .int .i64 aperto4, .int .i64 aperday5]]) fun r15 =>
 optO (CV.asI .i64 r15) fun i17 =>
 bif (i17 != 0) then
 (optO (C lb n F_r04_Check [.agg [.int .i64 aperfro3, .int .i64 aperto4, .int .i64 aperday5]]) fun r18 =>
 chkO (CV.isCell r18) (
 chkO (room (l14.length + 1) 24) (
 r07_head_J3 lb n acar1 anum2 aperfro3 aperto4 aperday5 alegn6 aleg7 (b13 && false) (l14 ++ [[r18, CV.str [112, 101, 114, 105, 111, 100]]]))))
 else
 (r07_head_J3 lb n acar1 anum2 aperfro3 aperto4 aperday5 alegn6 aleg7 b13 l14) := (hold_eq _).trans (by kernel_rfl)

theorem r07_head_J1_eq (lb : Nat) (n : Nat) (acar1 : List UInt8) (anum2 : Int) (aperfro3 : Int) (aperto4 : Int) (aperday5 : Int) (alegn6 : Bool) (aleg7 : List (List CV)) (b11 : Bool) (l12 : List (List CV)) :
  r07_head_J1 lb n acar1 anum2 aperfro3 aperto4 aperday5 alegn6 aleg7 b11 l12 =
 bif (decide (anum2 < 1)) then
 (chkO (room (l12.length + 1) 24) (
 r07_head_J2 lb n acar1 anum2 aperfro3 aperto4 aperday5 alegn6 aleg7 (b11 && false) (l12 ++ [[CV.int .i64 2, CV.str [110, 117, 109, 98, 101, 114]]])))
 else
 (bif (decide (anum2 > 9999)) then
 (chkO (room (l12.length + 1) 24) (
 r07_head_J2 lb n acar1 anum2 aperfro3 aperto4 aperday5 alegn6 aleg7 (b11 && false) (l12 ++ [[CV.int .i64 2, CV.str [110, 117, 109, 98, 101, 114]]])))
 else
 (r07_head_J2 lb n acar1 anum2 aperfro3 aperto4 aperday5 alegn6 aleg7 b11 l12)) := (hold_eq _).trans (by kernel_rfl)

theorem r07_head_eq (lb : Nat) (n : Nat) (acar1 : List UInt8) (anum2 : Int) (aperfro3 : Int) (aperto4 : Int) (aperday5 : Int) (alegn6 : Bool) (aleg7 : List (List CV)) :
  top lb n F_r07_head [.agg [.str acar1, .int .i64 anum2, .int .i64 aperfro3, .int .i64 aperto4, .int .i64 aperday5, .list alegn6 aleg7]] =
 optO (C lb n F_r01_Carrier [.str acar1]) fun r9 =>
 optO (CV.asB r9) fun b10 =>
 bif (!b10) then
 (r07_head_J1 lb n acar1 anum2 aperfro3 aperto4 aperday5 alegn6 aleg7 false [[CV.int .i64 5, CV.str [99, 97, 114, 114, 105, 101, 114]]])
 else
 (r07_head_J1 lb n acar1 anum2 aperfro3 aperto4 aperday5 alegn6 aleg7 true []) := by kernel_rfl

/-! airline/airlineref07.Check -/
/-! airline/flight.Check -/
/-! airline/calendar.Print -/
theorem calendar_Print_eq (lb : Nat) (n : Nat) (a1 : Int) :
  top lb n F_calendar_Print [.int .i64 a1] =
 optO (C lb n F_calendar_Date [.int .i64 a1]) fun r2 =>
 optO (CV.asT r2) fun t3 =>
 optO (t3[0]?) fun x4 =>
 optO (CV.asT r2) fun t5 =>
 optO (t5[1]?) fun x6 =>
 optO (CV.asT r2) fun t7 =>
 optO (t7[2]?) fun x9 =>
 optO (CV.asI .i64 x4) fun i10 =>
 bif (i10 == 0) then
 (some (.str []))
 else
 (optO (CV.asI .i64 x4) fun i11 =>
 optO (C lb n F_calendar_two [.int .i64 (IntKind.wrap .i64 (Int.tdiv i11 100))]) fun r12 =>
 optO (CV.asI .i64 x4) fun i13 =>
 optO (C lb n F_calendar_two [.int .i64 (Int.tmod i13 100)]) fun r14 =>
 optO (CV.asS r12) fun s15 =>
 optO (CV.asS r14) fun s17 =>
 chkO (decide (s15.length + s17.length ≤ 9223372036854775807)) (
 chkO (decide ((s15 ++ s17).length + [45].length ≤ 9223372036854775807)) (
 optO (C lb n F_calendar_two [x6]) fun r18 =>
 optO (CV.asS r18) fun s19 =>
 chkO (decide (((s15 ++ s17) ++ [45]).length + s19.length ≤ 9223372036854775807)) (
 chkO (decide ((((s15 ++ s17) ++ [45]) ++ s19).length + [45].length ≤ 9223372036854775807)) (
 optO (C lb n F_calendar_two [x9]) fun r20 =>
 optO (CV.asS r20) fun s21 =>
 chkO (decide (((((s15 ++ s17) ++ [45]) ++ s19) ++ [45]).length + s21.length ≤ 9223372036854775807)) (
 some (.str (((((s15 ++ s17) ++ [45]) ++ s19) ++ [45]) ++ s21)))))))) := by kernel_rfl

/-! airline/calendar.Date -/
noncomputable def calendar_Date_L1 (lb : Nat) (n : Nat) (k7 : Nat) (a1 : Int) (i4 : Int) : Option CV :=
  hold (loopC (E0 lb n 0 994) 0 (loopTemps (sub (B F_calendar_Date) [1, 1, 1, 0, 0, 0]) ++ []) [] (sub (B F_calendar_Date) [1, 1, 1, 0, 0, 0]) (blockK 0 (seqK (E0 lb n 0 996) (sub (B F_calendar_Date) [1, 1, 1, 0]) (sub (B F_calendar_Date) [1, 1, 1, 1]) (retK Tryz.prog (R F_calendar_Date) 0 (outK (tightF Tryz.prog F_calendar_Date))))) k7 ⟨fr 48 [(0, .val (.int .i64 a1)), (2, .val (.int .i64 0)), (3, .val (.int .i64 0)), (4, .val (.int .i64 0)), (5, .val (.int .i64 i4)), (15, .val (.int .i64 a1)), (16, .val (.int .i64 (IntKind.wrap .i64 (Int.tdiv a1 366)))), (17, .val (.int .i64 (IntKind.wrap .i64 (2000 + (IntKind.wrap .i64 (Int.tdiv a1 366))))))], [bx 48 []], KK⟩)

noncomputable def calendar_Date_J2 (lb : Nat) (n : Nat) (a1 : Int) (i11 : Int) : Option CV :=
  hold (E0 lb n 0 996 (sub (B F_calendar_Date) [1, 1, 1, 1]) (retK Tryz.prog (R F_calendar_Date) 0 (outK (tightF Tryz.prog F_calendar_Date))) ⟨fr 48 [(0, .val (.int .i64 a1)), (2, .val (.int .i64 0)), (3, .val (.int .i64 0)), (4, .val (.int .i64 0)), (5, .val (.int .i64 i11)), (15, .val (.int .i64 a1)), (16, .val (.int .i64 (IntKind.wrap .i64 (Int.tdiv a1 366)))), (17, .val (.int .i64 (IntKind.wrap .i64 (2000 + (IntKind.wrap .i64 (Int.tdiv a1 366))))))], [bx 48 []], KK⟩)

noncomputable def calendar_Date_L3 (lb : Nat) (n : Nat) (k23 : Nat) (a1 : Int) (i11 : Int) (r12 : CV) (i13 : Int) (i18 : Int) (i19 : Int) : Option CV :=
  hold (loopC (E0 lb n 0 991) 0 (loopTemps (sub (B F_calendar_Date) [1, 1, 1, 1, 1, 0, 1, 0, 0]) ++ [7, 8]) [] (sub (B F_calendar_Date) [1, 1, 1, 1, 1, 0, 1, 0, 0]) (blockK 2 (seqK (E0 lb n 0 994) (sub (B F_calendar_Date) [1, 1, 1, 1, 1, 0]) (sub (B F_calendar_Date) [1, 1, 1, 1, 1, 1]) (retK Tryz.prog (R F_calendar_Date) 0 (outK (tightF Tryz.prog F_calendar_Date))))) k23 ⟨fr 48 [(0, .val (.int .i64 a1)), (2, .val (.int .i64 0)), (3, .val (.int .i64 0)), (4, .val (.int .i64 0)), (5, .val (.int .i64 i11)), (6, .val (.int .i64 i18)), (15, .val (.int .i64 a1)), (16, .val (.int .i64 (IntKind.wrap .i64 (Int.tdiv a1 366)))), (17, .val (.int .i64 (IntKind.wrap .i64 (2000 + (IntKind.wrap .i64 (Int.tdiv a1 366)))))), (25, .val (.int .i64 a1)), (26, .val (.int .i64 i11)), (27, .val r12), (28, .val (.int .i64 (IntKind.wrap .i64 (a1 - i13)))), (29, .val (.int .i64 i19))], [bx 48 []], KK⟩)

noncomputable def calendar_Date_J4 (lb : Nat) (n : Nat) (a1 : Int) (i11 : Int) (r12 : CV) (i13 : Int) (i27 : Int) : Option CV :=
  hold (E0 lb n 0 994 (sub (B F_calendar_Date) [1, 1, 1, 1, 1, 1]) (retK Tryz.prog (R F_calendar_Date) 0 (outK (tightF Tryz.prog F_calendar_Date))) ⟨fr 48 [(0, .val (.int .i64 a1)), (2, .val (.int .i64 0)), (3, .val (.int .i64 0)), (4, .val (.int .i64 0)), (5, .val (.int .i64 i11)), (6, .val (.int .i64 i27)), (15, .val (.int .i64 a1)), (16, .val (.int .i64 (IntKind.wrap .i64 (Int.tdiv a1 366)))), (17, .val (.int .i64 (IntKind.wrap .i64 (2000 + (IntKind.wrap .i64 (Int.tdiv a1 366)))))), (25, .val (.int .i64 a1)), (26, .val (.int .i64 i11)), (27, .val r12), (28, .val (.int .i64 (IntKind.wrap .i64 (a1 - i13))))], [bx 48 []], KK⟩)

theorem calendar_Date_L3_succ (lb : Nat) (n k23 : Nat) (a1 : Int) (i11 : Int) (r12 : CV) (i13 : Int) (i18 : Int) (i19 : Int) :
  calendar_Date_L3 lb n (k23 + 1) a1 i11 r12 i13 i18 i19 =
 bif (decide (i19 < 12)) then
 (optO (C lb n F_calendar_length [.int .i64 i11, .int .i64 (IntKind.wrap .i64 (i19 + 1))]) fun r24 =>
 optO (CV.asI .i64 r24) fun i25 =>
 bif (decide (i18 < i25)) then
 (some (.tup [.int .i64 i11, .int .i64 (IntKind.wrap .i64 (i19 + 1)), .int .i64 (IntKind.wrap .i64 (i18 + 1))]))
 else
 (optO (CV.asI .i64 r24) fun i26 =>
 calendar_Date_L3 lb n k23 a1 i11 r12 i13 (IntKind.wrap .i64 (i18 - i26)) (IntKind.wrap .i64 (i19 + 1))))
 else
 (calendar_Date_J4 lb n a1 i11 r12 i13 i18) := (hold_eq _).trans (by kernel_rfl)

theorem calendar_Date_J2_eq (lb : Nat) (n : Nat) (a1 : Int) (i11 : Int) :
  calendar_Date_J2 lb n a1 i11 =
 optO (C lb n F_calendar_first [.int .i64 i11]) fun r12 =>
 optO (CV.asI .i64 r12) fun i13 =>
 calendar_Date_L3 lb n n a1 i11 r12 i13 (IntKind.wrap .i64 (a1 - i13)) 0 := (hold_eq _).trans (by kernel_rfl)

theorem calendar_Date_L1_succ (lb : Nat) (n k7 : Nat) (a1 : Int) (i4 : Int) :
  calendar_Date_L1 lb n (k7 + 1) a1 i4 =
 optO (C lb n F_calendar_first [.int .i64 (IntKind.wrap .i64 (i4 + 1))]) fun r9 =>
 optO (CV.asI .i64 r9) fun i10 =>
 bif (decide (i10 ≤ a1)) then
 (calendar_Date_L1 lb n k7 a1 (IntKind.wrap .i64 (i4 + 1)))
 else
 (calendar_Date_J2 lb n a1 i4) := (hold_eq _).trans (by kernel_rfl)

theorem calendar_Date_eq (lb : Nat) (n : Nat) (a1 : Int) :
  top lb n F_calendar_Date [.int .i64 a1] =
 bif (decide (a1 < 0)) then
 (some (.tup [.int .i64 0, .int .i64 0, .int .i64 0]))
 else
 (bif (decide (a1 ≥ 36525)) then
 (some (.tup [.int .i64 0, .int .i64 0, .int .i64 0]))
 else
 (calendar_Date_L1 lb n n a1 (IntKind.wrap .i64 (2000 + (IntKind.wrap .i64 (Int.tdiv a1 366)))))) := by kernel_rfl

/-! airline/calendar.two -/
theorem calendar_two_eq (lb : Nat) (n : Nat) (a1 : Int) :
  top lb n F_calendar_two [.int .i64 a1] =
 optO (bytesOf [[CV.int .u8 (IntKind.wrap .u8 (IntKind.wrap .i64 (48 + (IntKind.wrap .i64 (Int.tdiv a1 10)))))], [CV.int .u8 (IntKind.wrap .u8 (IntKind.wrap .i64 (48 + (Int.tmod a1 10))))]]) fun s2 =>
 some (.str s2) := by kernel_rfl

/-! airline/calendar.first -/
theorem calendar_first_eq (lb : Nat) (n : Nat) (a1 : Int) :
  top lb n F_calendar_first [.int .i64 a1] =
 some (.int .i64 (IntKind.wrap .i64 ((IntKind.wrap .i64 (365 * (IntKind.wrap .i64 (a1 - 2000)))) + (IntKind.wrap .i64 (Int.tdiv (IntKind.wrap .i64 ((IntKind.wrap .i64 (a1 - 2000)) + 3)) 4))))) := by kernel_rfl

/-! airline/airlineref03.Print -/
theorem r03_Print_eq (lb : Nat) (n : Nat) (a1 : Int) :
  top lb n F_r03_Print [.int .i64 a1] =
 optO (C lb n F_r03_Date [.int .i64 a1]) fun r2 =>
 optO (CV.asT r2) fun t3 =>
 optO (t3[0]?) fun x4 =>
 optO (CV.asT r2) fun t5 =>
 optO (t5[1]?) fun x6 =>
 optO (CV.asT r2) fun t7 =>
 optO (t7[2]?) fun x9 =>
 optO (CV.asI .i64 x4) fun i10 =>
 bif (i10 == 0) then
 (some (.str []))
 else
 (optO (CV.asI .i64 x4) fun i11 =>
 optO (C lb n F_r03_two [.int .i64 (IntKind.wrap .i64 (Int.tdiv i11 100))]) fun r12 =>
 optO (CV.asI .i64 x4) fun i13 =>
 optO (C lb n F_r03_two [.int .i64 (Int.tmod i13 100)]) fun r14 =>
 optO (CV.asS r12) fun s15 =>
 optO (CV.asS r14) fun s17 =>
 chkO (decide (s15.length + s17.length ≤ 9223372036854775807)) (
 chkO (decide ((s15 ++ s17).length + [45].length ≤ 9223372036854775807)) (
 optO (C lb n F_r03_two [x6]) fun r18 =>
 optO (CV.asS r18) fun s19 =>
 chkO (decide (((s15 ++ s17) ++ [45]).length + s19.length ≤ 9223372036854775807)) (
 chkO (decide ((((s15 ++ s17) ++ [45]) ++ s19).length + [45].length ≤ 9223372036854775807)) (
 optO (C lb n F_r03_two [x9]) fun r20 =>
 optO (CV.asS r20) fun s21 =>
 chkO (decide (((((s15 ++ s17) ++ [45]) ++ s19) ++ [45]).length + s21.length ≤ 9223372036854775807)) (
 some (.str (((((s15 ++ s17) ++ [45]) ++ s19) ++ [45]) ++ s21)))))))) := by kernel_rfl

/-! airline/airlineref03.Date -/
noncomputable def r03_Date_L1 (lb : Nat) (n : Nat) (k24 : Nat) (i17 : Int) (i18 : Int) (i19 : Int) : Option CV :=
  hold (loopC (E0 lb n 0 994) 0 (loopTemps (sub (B F_r03_Date) [1, 1, 1, 0, 0, 0]) ++ []) [] (sub (B F_r03_Date) [1, 1, 1, 0, 0, 0]) (blockK 0 (seqK (E0 lb n 0 996) (sub (B F_r03_Date) [1, 1, 1, 0]) (sub (B F_r03_Date) [1, 1, 1, 1]) (retK Tryz.prog (R F_r03_Date) 0 (outK (tightF Tryz.prog F_r03_Date))))) k24 ⟨fr 33 [(0, .val (.int .i64 i17)), (2, .val (.int .i64 0)), (3, .val (.int .i64 0)), (4, .val (.int .i64 0)), (5, .val (.int .i64 i18)), (6, .val (.int .i64 i19))], [bx 33 []], KK⟩)

noncomputable def r03_Date_J2 (lb : Nat) (n : Nat) (i29 : Int) (i30 : Int) (i31 : Int) : Option CV :=
  hold (E0 lb n 0 996 (sub (B F_r03_Date) [1, 1, 1, 1]) (retK Tryz.prog (R F_r03_Date) 0 (outK (tightF Tryz.prog F_r03_Date))) ⟨fr 33 [(0, .val (.int .i64 i29)), (2, .val (.int .i64 0)), (3, .val (.int .i64 0)), (4, .val (.int .i64 0)), (5, .val (.int .i64 i30)), (6, .val (.int .i64 i31))], [bx 33 []], KK⟩)

theorem r03_Date_J2_eq (lb : Nat) (n : Nat) (i29 : Int) (i30 : Int) (i31 : Int) :
  r03_Date_J2 lb n i29 i30 i31 =
 some (.tup [.int .i64 i30, .int .i64 i31, .int .i64 (IntKind.wrap .i64 (i29 + 1))]) := (hold_eq _).trans (by kernel_rfl)

theorem r03_Date_L1_succ (lb : Nat) (n k24 : Nat) (i17 : Int) (i18 : Int) (i19 : Int) :
  r03_Date_L1 lb n (k24 + 1) i17 i18 i19 =
 optO (C lb n F_r03_Length [.int .i64 i18, .int .i64 i19]) fun r25 =>
 optO (CV.asI .i64 r25) fun i26 =>
 bif (decide (i17 ≥ i26)) then
 (optO (C lb n F_r03_Length [.int .i64 i18, .int .i64 i19]) fun r27 =>
 optO (CV.asI .i64 r27) fun i28 =>
 bif ((IntKind.wrap .i64 (i19 + 1)) == 13) then
 (r03_Date_L1 lb n k24  (IntKind.wrap .i64 (i17 - i28)) (IntKind.wrap .i64 (i18 + 1)) 1)
 else
 (r03_Date_L1 lb n k24  (IntKind.wrap .i64 (i17 - i28)) i18 (IntKind.wrap .i64 (i19 + 1))))
 else
 (r03_Date_J2 lb n  i17 i18 i19) := (hold_eq _).trans (by kernel_rfl)

theorem r03_Date_eq (lb : Nat) (n : Nat) (a1 : Int) :
  top lb n F_r03_Date [.int .i64 a1] =
 bif (decide (a1 < 0)) then
 (some (.tup [.int .i64 0, .int .i64 0, .int .i64 0]))
 else
 (bif (decide (a1 ≥ 36525)) then
 (some (.tup [.int .i64 0, .int .i64 0, .int .i64 0]))
 else
 (r03_Date_L1 lb n n  a1 2000 1)) := by kernel_rfl

/-! airline/airlineref03.two -/
theorem r03_two_eq (lb : Nat) (n : Nat) (a1 : Int) :
  top lb n F_r03_two [.int .i64 a1] =
 optO (bytesOf [[CV.int .u8 (IntKind.wrap .u8 (IntKind.wrap .i64 (48 + (IntKind.wrap .i64 (Int.tdiv a1 10)))))], [CV.int .u8 (IntKind.wrap .u8 (IntKind.wrap .i64 (48 + (Int.tmod a1 10))))]]) fun s2 =>
 some (.str s2) := by kernel_rfl

/-! airline/airlineref03.Length -/
noncomputable def r03_Length_J1 (lb : Nat) (n : Nat) (a1 : Int) (b2 : Int) (b3 : Bool) : Option CV :=
  hold (E0 lb n 0 995 (sub (B F_r03_Length) [1, 0, 1, 0, 1]) (blockK 0 (seqK (E0 lb n 0 998) (sub (B F_r03_Length) [1, 0]) (sub (B F_r03_Length) [1, 1]) (retK Tryz.prog (R F_r03_Length) 0 (outK (tightF Tryz.prog F_r03_Length))))) ⟨fr 16 [(0, .val (.int .i64 a1)), (1, .val (.int .i64 b2)), (4, .val (.int .i64 0)), (5, .val (.int .i64 b2)), (6, .val (.bool b3))], [bx 16 []], KK⟩)

theorem r03_Length_J1_eq (lb : Nat) (n : Nat) (a1 : Int) (b2 : Int) (b3 : Bool) :
  r03_Length_J1 lb n a1 b2 b3 =
 bif b3 then
 (some (.int .i64 30))
 else
 (bif (b2 == 2) then
 (bif ((Int.tmod a1 4) == 0) then
 (some (.int .i64 29))
 else
 (some (.int .i64 28)))
 else
 (some (.int .i64 31))) := (hold_eq _).trans (by kernel_rfl)

theorem r03_Length_eq (lb : Nat) (n : Nat) (a1 : Int) (b2 : Int) :
  top lb n F_r03_Length [.int .i64 a1, .int .i64 b2] =
 bif (b2 == 4) then
 (r03_Length_J1 lb n a1 b2 (b2 == 4))
 else
 (bif (b2 == 6) then
 (r03_Length_J1 lb n a1 b2 (b2 == 6))
 else
 (bif (b2 == 9) then
 (r03_Length_J1 lb n a1 b2 (b2 == 9))
 else
 (r03_Length_J1 lb n a1 b2 (b2 == 11)))) := by kernel_rfl

end Go.Proofs
