/- Equations of functions, printed by program. Conditions: none. -/
import Derived.Test.YtdcpdknginpohaaGreatDoorEv
namespace Go.Proofs
open Go.Am
set_option maxRecDepth 100000
set_option linter.unusedVariables false
/-! airline/airlinelaw07.FlightTexts -/
noncomputable def l07_FlightTexts_J1 (lb : Nat) (n : Nat) (acar1 : List UInt8) (anum2 : Int) (aperfro3 : Int) (aperto4 : Int) (aperday5 : Int) (alegn6 : Bool) (aleg7 : List (List CV)) (b9 : List UInt8) (x17 : CV) (x19 : CV) (x22 : CV) (x24 : CV) (x29 : CV) (x42 : CV) (r14 : CV) (r20 : CV) (r25 : CV) (x27 : CV) (r38 : CV) (x40 : CV) (x31 : CV) (x33 : CV) (x34 : CV) (x35 : CV) (x36 : CV) (x37 : CV) (x44 : CV) (x45 : CV) (x46 : CV) (x47 : CV) (x48 : CV) (x49 : CV) (v67 : CV) (v68 : CV) : Option CV :=
  hold (E0 lb n 0 992 (sub (B F_l07_FlightTexts) [1, 1, 1, 1, 1, 1, 1, 1]) (retK Tryz.prog (R F_l07_FlightTexts) 0 (outK (tightF Tryz.prog F_l07_FlightTexts))) ⟨fr 101 [(0, .val (.agg [.str acar1, .int .i64 anum2, .int .i64 aperfro3, .int .i64 aperto4, .int .i64 aperday5, .list alegn6 aleg7])), (1, .val (.str b9)), (2, .ptr 0 2 0), (4, .val (.bool false)), (5, .val x17), (6, .val x19), (7, .val x22), (8, .val x24), (9, .ptr 0 9 0), (10, .val x29), (11, .ptr 0 11 0), (12, .val x42), (13, .val v67), (14, .val v68), (26, .val r14), (27, .val (.agg [.str acar1, .int .i64 anum2, .int .i64 aperfro3, .int .i64 aperto4, .int .i64 aperday5, .list alegn6 aleg7])), (28, .val r14), (29, .val x17), (30, .val x19), (31, .val r20), (32, .val (.agg [.str acar1, .int .i64 anum2, .int .i64 aperfro3, .int .i64 aperto4, .int .i64 aperday5, .list alegn6 aleg7])), (33, .val r20), (34, .val x22), (35, .val x24), (36, .val r25), (37, .val (.str b9)), (38, .val r25), (39, .val x27), (40, .val x29), (41, .val r38), (42, .val (.str b9)), (43, .val r38), (44, .val x40), (45, .val x42)], [bx 101 [(2, some [.val (.str acar1), .val (.int .i64 anum2), .val (.int .i64 aperfro3), .val (.int .i64 aperto4), .val (.int .i64 aperday5), .val (.list alegn6 aleg7)]), (9, some [.val x31, .val x33, .val x34, .val x35, .val x36, .val x37]), (11, some [.val x44, .val x45, .val x46, .val x47, .val x48, .val x49])]], KK⟩)

theorem l07_FlightTexts_J1_eq (lb : Nat) (n : Nat) (acar1 : List UInt8) (anum2 : Int) (aperfro3 : Int) (aperto4 : Int) (aperday5 : Int) (alegn6 : Bool) (aleg7 : List (List CV)) (b9 : List UInt8) (x17 : CV) (x19 : CV) (x22 : CV) (x24 : CV) (x29 : CV) (x42 : CV) (r14 : CV) (r20 : CV) (r25 : CV) (x27 : CV) (r38 : CV) (x40 : CV) (x31 : CV) (x33 : CV) (x34 : CV) (x35 : CV) (x36 : CV) (x37 : CV) (x44 : CV) (x45 : CV) (x46 : CV) (x47 : CV) (x48 : CV) (x49 : CV) (v67 : CV) (v68 : CV) :
  l07_FlightTexts_J1 lb n acar1 anum2 aperfro3 aperto4 aperday5 alegn6 aleg7 b9 x17 x19 x22 x24 x29 x42 r14 r20 r25 x27 r38 x40 x31 x33 x34 x35 x36 x37 x44 x45 x46 x47 x48 x49 v67 v68 =
 optO (CV.asI .i64 x19) fun i69 =>
 bif (i69 != 0) then
 (optO (CV.asS x17) fun s70 =>
 bif (s70 == []) then
 (optO (C lb n F_l07_awake []) fun r71 =>
 some (r71))
 else
 (some (.bool false)))
 else
 (optO (C lb n F_flight_Parse [x17]) fun r72 =>
 optO (CV.asT r72) fun t73 =>
 optO (t73[0]?) fun x74 =>
 optO (CV.asT r72) fun t75 =>
 optO (t75[1]?) fun x76 =>
 optO (CV.asA x74) fun c77 =>
 chkO (c77.length == 6) (
 optO (c77[0]?) fun x78 =>
 optO (c77[1]?) fun x79 =>
 optO (c77[2]?) fun x80 =>
 optO (c77[3]?) fun x81 =>
 optO (c77[4]?) fun x82 =>
 optO (c77[5]?) fun x83 =>
 optO (C lb n F_r07_Same [.agg [x78, x79, x80, x81, x82, x83], .agg [.str acar1, .int .i64 anum2, .int .i64 aperfro3, .int .i64 aperto4, .int .i64 aperday5, .list alegn6 aleg7]]) fun r84 =>
 optO (CV.asB r84) fun b85 =>
 bif b85 then
 (optO (CV.asI .i64 x76) fun i86 =>
 bif (i86 == 0) then
 (optO (C lb n F_l07_awake []) fun r87 =>
 some (r87))
 else
 (some (.bool false)))
 else
 (some (.bool false)))) := (hold_eq _).trans (by kernel_rfl)

noncomputable def l07_FlightTexts_J2 (lb : Nat) (n : Nat) (acar1 : List UInt8) (anum2 : Int) (aperfro3 : Int) (aperto4 : Int) (aperday5 : Int) (alegn6 : Bool) (aleg7 : List (List CV)) (b9 : List UInt8) (x17 : CV) (x19 : CV) (x22 : CV) (x24 : CV) (x29 : CV) (x42 : CV) (r14 : CV) (r20 : CV) (r25 : CV) (x27 : CV) (r38 : CV) (x40 : CV) (x31 : CV) (x33 : CV) (x34 : CV) (x35 : CV) (x36 : CV) (x37 : CV) (x44 : CV) (x45 : CV) (x46 : CV) (x47 : CV) (x48 : CV) (x49 : CV) : Option CV :=
  hold (E0 lb n 0 992 (sub (B F_l07_FlightTexts) [1, 1, 1, 1, 1, 1, 1, 1]) (retK Tryz.prog (R F_l07_FlightTexts) 0 (outK (tightF Tryz.prog F_l07_FlightTexts))) ⟨fr 101 [(0, .val (.agg [.str acar1, .int .i64 anum2, .int .i64 aperfro3, .int .i64 aperto4, .int .i64 aperday5, .list alegn6 aleg7])), (1, .val (.str b9)), (2, .ptr 0 2 0), (4, .val (.bool false)), (5, .val x17), (6, .val x19), (7, .val x22), (8, .val x24), (9, .ptr 0 9 0), (10, .val x29), (11, .ptr 0 11 0), (12, .val x42), (26, .val r14), (27, .val (.agg [.str acar1, .int .i64 anum2, .int .i64 aperfro3, .int .i64 aperto4, .int .i64 aperday5, .list alegn6 aleg7])), (28, .val r14), (29, .val x17), (30, .val x19), (31, .val r20), (32, .val (.agg [.str acar1, .int .i64 anum2, .int .i64 aperfro3, .int .i64 aperto4, .int .i64 aperday5, .list alegn6 aleg7])), (33, .val r20), (34, .val x22), (35, .val x24), (36, .val r25), (37, .val (.str b9)), (38, .val r25), (39, .val x27), (40, .val x29), (41, .val r38), (42, .val (.str b9)), (43, .val r38), (44, .val x40), (45, .val x42)], [bx 101 [(2, some [.val (.str acar1), .val (.int .i64 anum2), .val (.int .i64 aperfro3), .val (.int .i64 aperto4), .val (.int .i64 aperday5), .val (.list alegn6 aleg7)]), (9, some [.val x31, .val x33, .val x34, .val x35, .val x36, .val x37]), (11, some [.val x44, .val x45, .val x46, .val x47, .val x48, .val x49])]], KK⟩)

theorem l07_FlightTexts_J2_eq (lb : Nat) (n : Nat) (acar1 : List UInt8) (anum2 : Int) (aperfro3 : Int) (aperto4 : Int) (aperday5 : Int) (alegn6 : Bool) (aleg7 : List (List CV)) (b9 : List UInt8) (x17 : CV) (x19 : CV) (x22 : CV) (x24 : CV) (x29 : CV) (x42 : CV) (r14 : CV) (r20 : CV) (r25 : CV) (x27 : CV) (r38 : CV) (x40 : CV) (x31 : CV) (x33 : CV) (x34 : CV) (x35 : CV) (x36 : CV) (x37 : CV) (x44 : CV) (x45 : CV) (x46 : CV) (x47 : CV) (x48 : CV) (x49 : CV) :
  l07_FlightTexts_J2 lb n acar1 anum2 aperfro3 aperto4 aperday5 alegn6 aleg7 b9 x17 x19 x22 x24 x29 x42 r14 r20 r25 x27 r38 x40 x31 x33 x34 x35 x36 x37 x44 x45 x46 x47 x48 x49 =
 optO (CV.asI .i64 x19) fun i88 =>
 bif (i88 != 0) then
 (optO (CV.asS x17) fun s89 =>
 bif (s89 == []) then
 (optO (C lb n F_l07_awake []) fun r90 =>
 some (r90))
 else
 (some (.bool false)))
 else
 (optO (C lb n F_flight_Parse [x17]) fun r91 =>
 optO (CV.asT r91) fun t92 =>
 optO (t92[0]?) fun x93 =>
 optO (CV.asT r91) fun t94 =>
 optO (t94[1]?) fun x95 =>
 optO (CV.asA x93) fun c96 =>
 chkO (c96.length == 6) (
 optO (c96[0]?) fun x97 =>
 optO (c96[1]?) fun x98 =>
 optO (c96[2]?) fun x99 =>
 optO (c96[3]?) fun x100 =>
 optO (c96[4]?) fun x101 =>
 optO (c96[5]?) fun x102 =>
 optO (C lb n F_r07_Same [.agg [x97, x98, x99, x100, x101, x102], .agg [.str acar1, .int .i64 anum2, .int .i64 aperfro3, .int .i64 aperto4, .int .i64 aperday5, .list alegn6 aleg7]]) fun r103 =>
 optO (CV.asB r103) fun b104 =>
 bif b104 then
 (optO (CV.asI .i64 x95) fun i105 =>
 bif (i105 == 0) then
 (optO (C lb n F_l07_awake []) fun r106 =>
 some (r106))
 else
 (some (.bool false)))
 else
 (some (.bool false)))) := (hold_eq _).trans (by kernel_rfl)

theorem l07_FlightTexts_eq (lb : Nat) (n : Nat) (acar1 : List UInt8) (anum2 : Int) (aperfro3 : Int) (aperto4 : Int) (aperday5 : Int) (alegn6 : Bool) (aleg7 : List (List CV)) (b9 : List UInt8) :
  top lb n F_l07_FlightTexts [.agg [.str acar1, .int .i64 anum2, .int .i64 aperfro3, .int .i64 aperto4, .int .i64 aperday5, .list alegn6 aleg7], .str b9] =
 optO (C lb n F_r07_Big [.agg [.list true [], .list true []], .agg [.str acar1, .int .i64 anum2, .int .i64 aperfro3, .int .i64 aperto4, .int .i64 aperday5, .list alegn6 aleg7]]) fun r10 =>
 optO (CV.asB r10) fun b11 =>
 bif b11 then
 (optO (C lb n F_l07_awake []) fun r12 =>
 some (r12))
 else
 (bif (decide ((b9.length : Int) > 400)) then
 (optO (C lb n F_l07_awake []) fun r13 =>
 some (r13))
 else
 (optO (C lb n F_flight_Print [.agg [.str acar1, .int .i64 anum2, .int .i64 aperfro3, .int .i64 aperto4, .int .i64 aperday5, .list alegn6 aleg7]]) fun r14 =>
 optO (CV.asT r14) fun t15 =>
 optO (t15[0]?) fun x17 =>
 optO (CV.asT r14) fun t18 =>
 optO (t18[1]?) fun x19 =>
 optO (C lb n F_r07_Print [.agg [.str acar1, .int .i64 anum2, .int .i64 aperfro3, .int .i64 aperto4, .int .i64 aperday5, .list alegn6 aleg7]]) fun r20 =>
 optO (CV.asT r20) fun t21 =>
 optO (t21[0]?) fun x22 =>
 optO (CV.asT r20) fun t23 =>
 optO (t23[1]?) fun x24 =>
 optO (C lb n F_flight_Parse [.str b9]) fun r25 =>
 optO (CV.asT r25) fun t26 =>
 optO (t26[0]?) fun x27 =>
 optO (CV.asT r25) fun t28 =>
 optO (t28[1]?) fun x29 =>
 optO (CV.asA x27) fun c30 =>
 chkO (c30.length == 6) (
 optO (c30[0]?) fun x31 =>
 optO (c30[1]?) fun x33 =>
 optO (c30[2]?) fun x34 =>
 optO (c30[3]?) fun x35 =>
 optO (c30[4]?) fun x36 =>
 optO (c30[5]?) fun x37 =>
 optO (C lb n F_r07_Parse [.str b9]) fun r38 =>
 optO (CV.asT r38) fun t39 =>
 optO (t39[0]?) fun x40 =>
 optO (CV.asT r38) fun t41 =>
 optO (t41[1]?) fun x42 =>
 optO (CV.asA x40) fun c43 =>
 chkO (c43.length == 6) (
 optO (c43[0]?) fun x44 =>
 optO (c43[1]?) fun x45 =>
 optO (c43[2]?) fun x46 =>
 optO (c43[3]?) fun x47 =>
 optO (c43[4]?) fun x48 =>
 optO (c43[5]?) fun x49 =>
 optO (CV.asS x17) fun s50 =>
 optO (CV.asS x22) fun s51 =>
 bif (!(s50 == s51)) then
 (some (.bool false))
 else
 (optO (CV.asI .i64 x19) fun i52 =>
 optO (CV.asI .i64 x24) fun i53 =>
 bif (i52 != i53) then
 (some (.bool false))
 else
 (optO (C lb n F_r07_Same [.agg [x31, x33, x34, x35, x36, x37], .agg [x44, x45, x46, x47, x48, x49]]) fun r54 =>
 optO (CV.asB r54) fun b55 =>
 bif (!b55) then
 (some (.bool false))
 else
 (optO (CV.asI .i64 x29) fun i56 =>
 optO (CV.asI .i64 x42) fun i57 =>
 bif (i56 != i57) then
 (some (.bool false))
 else
 (optO (CV.asI .i64 x29) fun i58 =>
 bif (i58 == 0) then
 (optO (C lb n F_flight_Print [.agg [x31, x33, x34, x35, x36, x37]]) fun r59 =>
 optO (CV.asT r59) fun t60 =>
 optO (t60[0]?) fun x61 =>
 optO (CV.asT r59) fun t62 =>
 optO (t62[1]?) fun x63 =>
 optO (CV.asS x61) fun s65 =>
 bif (!(s65 == b9)) then
 (some (.bool false))
 else
 (optO (CV.asI .i64 x63) fun i66 =>
 bif (i66 != 0) then
 (some (.bool false))
 else
 (l07_FlightTexts_J1 lb n acar1 anum2 aperfro3 aperto4 aperday5 alegn6 aleg7 b9 x17 x19 x22 x24 x29 x42 r14 r20 r25 x27 r38 x40 x31 x33 x34 x35 x36 x37 x44 x45 x46 x47 x48 x49 x61 x63)))
 else
 (l07_FlightTexts_J2 lb n acar1 anum2 aperfro3 aperto4 aperday5 alegn6 aleg7 b9 x17 x19 x22 x24 x29 x42 r14 r20 r25 x27 r38 x40 x31 x33 x34 x35 x36 x37 x44 x45 x46 x47 x48 x49 ))))))))) := by kernel_rfl

end Go.Proofs
