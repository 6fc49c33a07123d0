/- Equations of functions, printed by program. Conditions: none. -/
import Derived.Test.YtifjdkimbamdkaaGreatDoorEv
namespace Go.Proofs
open Go.Am
set_option maxRecDepth 100000
set_option linter.unusedVariables false
/-! airline/flight.leg -/
noncomputable def flight_leg_J1 (lb : Bool) (n : Nat) (aairn1 : Bool) (aair2 : List (List CV)) (adisn3 : Bool) (adis4 : List (List CV)) (bn5 : Bool) (b6 : List (List CV)) (c7 : Int) (x20 : CV) (x31 : CV) (c9 : List CV) (x10 : CV) (x11 : CV) (x12 : CV) (x13 : CV) (x14 : CV) (r15 : CV) (x18 : CV) (r27 : CV) (x29 : CV) (x22 : CV) (x23 : CV) (x24 : CV) (x25 : CV) (x26 : CV) (x34 : CV) (x35 : CV) (x36 : CV) (x37 : CV) (x38 : CV) (b41 : Bool) (l42 : List (List CV)) : Option CV :=
  hold (E0 lb n 0 994 (sub (B F_flight_leg) [1, 1, 1, 1, 1, 1]) (retK Tryz.prog (R F_flight_leg) 0 (outK (tightF Tryz.prog F_flight_leg))) ⟨fr 68 [(0, .val (.agg [.list aairn1 aair2, .list adisn3 adis4])), (1, .val (.list bn5 b6)), (2, .val (.int .i64 c7)), (3, .ptr 0 3 0), (6, .lst true true 38 []), (7, .lst true b41 38 l42), (8, .ptr 0 8 0), (9, .ptr 0 9 0), (10, .val x20), (11, .ptr 0 11 0), (12, .val x31), (13, .val (.list bn5 b6)), (14, .val (.int .i64 c7)), (15, .cptr c9 0), (16, .val (.agg [x10, x11, x12, x13, x14])), (17, .val r15), (18, .val (.agg [.list aairn1 aair2, .list adisn3 adis4])), (19, .ptr 0 8 0), (20, .val x10), (21, .val r15), (22, .val x18), (23, .val x20), (24, .val r27), (25, .val (.agg [.list aairn1 aair2, .list adisn3 adis4])), (26, .ptr 0 8 1), (27, .val x11), (28, .val r27), (29, .val x29), (30, .val x31)], [bx 68 [(3, some [.val (.list aairn1 aair2), .val (.list adisn3 adis4)]), (8, some [.val x10, .val x11, .val x12, .val x13, .val x14]), (9, some [.val x22, .val x23, .val x24, .val x25, .val x26]), (11, some [.val x34, .val x35, .val x36, .val x37, .val x38])]], KK⟩)

noncomputable def flight_leg_J2 (lb : Bool) (n : Nat) (aairn1 : Bool) (aair2 : List (List CV)) (adisn3 : Bool) (adis4 : List (List CV)) (bn5 : Bool) (b6 : List (List CV)) (c7 : Int) (x20 : CV) (x31 : CV) (c9 : List CV) (x10 : CV) (x11 : CV) (x12 : CV) (x13 : CV) (x14 : CV) (r15 : CV) (x18 : CV) (r27 : CV) (x29 : CV) (x22 : CV) (x23 : CV) (x24 : CV) (x25 : CV) (x26 : CV) (x34 : CV) (x35 : CV) (x36 : CV) (x37 : CV) (x38 : CV) (b44 : Bool) (l45 : List (List CV)) : Option CV :=
  hold (E0 lb n 0 993 (sub (B F_flight_leg) [1, 1, 1, 1, 1, 1, 1]) (retK Tryz.prog (R F_flight_leg) 0 (outK (tightF Tryz.prog F_flight_leg))) ⟨fr 68 [(0, .val (.agg [.list aairn1 aair2, .list adisn3 adis4])), (1, .val (.list bn5 b6)), (2, .val (.int .i64 c7)), (3, .ptr 0 3 0), (6, .lst true true 38 []), (7, .lst true b44 38 l45), (8, .ptr 0 8 0), (9, .ptr 0 9 0), (10, .val x20), (11, .ptr 0 11 0), (12, .val x31), (13, .val (.list bn5 b6)), (14, .val (.int .i64 c7)), (15, .cptr c9 0), (16, .val (.agg [x10, x11, x12, x13, x14])), (17, .val r15), (18, .val (.agg [.list aairn1 aair2, .list adisn3 adis4])), (19, .ptr 0 8 0), (20, .val x10), (21, .val r15), (22, .val x18), (23, .val x20), (24, .val r27), (25, .val (.agg [.list aairn1 aair2, .list adisn3 adis4])), (26, .ptr 0 8 1), (27, .val x11), (28, .val r27), (29, .val x29), (30, .val x31)], [bx 68 [(3, some [.val (.list aairn1 aair2), .val (.list adisn3 adis4)]), (8, some [.val x10, .val x11, .val x12, .val x13, .val x14]), (9, some [.val x22, .val x23, .val x24, .val x25, .val x26]), (11, some [.val x34, .val x35, .val x36, .val x37, .val x38])]], KK⟩)

noncomputable def flight_leg_J3 (lb : Bool) (n : Nat) (aairn1 : Bool) (aair2 : List (List CV)) (adisn3 : Bool) (adis4 : List (List CV)) (bn5 : Bool) (b6 : List (List CV)) (c7 : Int) (x20 : CV) (x31 : CV) (c9 : List CV) (x10 : CV) (x11 : CV) (x12 : CV) (x13 : CV) (x14 : CV) (r15 : CV) (x18 : CV) (r27 : CV) (x29 : CV) (x22 : CV) (x23 : CV) (x24 : CV) (x25 : CV) (x26 : CV) (x34 : CV) (x35 : CV) (x36 : CV) (x37 : CV) (x38 : CV) (b48 : Bool) (l49 : List (List CV)) : Option CV :=
  hold (E0 lb n 0 992 (sub (B F_flight_leg) [1, 1, 1, 1, 1, 1, 1, 1]) (retK Tryz.prog (R F_flight_leg) 0 (outK (tightF Tryz.prog F_flight_leg))) ⟨fr 68 [(0, .val (.agg [.list aairn1 aair2, .list adisn3 adis4])), (1, .val (.list bn5 b6)), (2, .val (.int .i64 c7)), (3, .ptr 0 3 0), (6, .lst true true 38 []), (7, .lst true b48 38 l49), (8, .ptr 0 8 0), (9, .ptr 0 9 0), (10, .val x20), (11, .ptr 0 11 0), (12, .val x31), (13, .val (.list bn5 b6)), (14, .val (.int .i64 c7)), (15, .cptr c9 0), (16, .val (.agg [x10, x11, x12, x13, x14])), (17, .val r15), (18, .val (.agg [.list aairn1 aair2, .list adisn3 adis4])), (19, .ptr 0 8 0), (20, .val x10), (21, .val r15), (22, .val x18), (23, .val x20), (24, .val r27), (25, .val (.agg [.list aairn1 aair2, .list adisn3 adis4])), (26, .ptr 0 8 1), (27, .val x11), (28, .val r27), (29, .val x29), (30, .val x31)], [bx 68 [(3, some [.val (.list aairn1 aair2), .val (.list adisn3 adis4)]), (8, some [.val x10, .val x11, .val x12, .val x13, .val x14]), (9, some [.val x22, .val x23, .val x24, .val x25, .val x26]), (11, some [.val x34, .val x35, .val x36, .val x37, .val x38])]], KK⟩)

theorem flight_leg_J3_eq (lb : Bool) (n : Nat) (aairn1 : Bool) (aair2 : List (List CV)) (adisn3 : Bool) (adis4 : List (List CV)) (bn5 : Bool) (b6 : List (List CV)) (c7 : Int) (x20 : CV) (x31 : CV) (c9 : List CV) (x10 : CV) (x11 : CV) (x12 : CV) (x13 : CV) (x14 : CV) (r15 : CV) (x18 : CV) (r27 : CV) (x29 : CV) (x22 : CV) (x23 : CV) (x24 : CV) (x25 : CV) (x26 : CV) (x34 : CV) (x35 : CV) (x36 : CV) (x37 : CV) (x38 : CV) (b48 : Bool) (l49 : List (List CV)) :
  flight_leg_J3 lb n aairn1 aair2 adisn3 adis4 bn5 b6 c7 x20 x31 c9 x10 x11 x12 x13 x14 r15 x18 r27 x29 x22 x23 x24 x25 x26 x34 x35 x36 x37 x38 b48 l49 =
 optO (C lb n F_flight_minutes [x12]) fun r50 =>
 optO (CV.asB r50) fun b51 =>
 bif (!b51) then
 (chkO (room (l49.length + 1) 8) (
 some (.list (b48 && false) (l49 ++ [[CV.int .i64 2]]))))
 else
 (optO (C lb n F_flight_minutes [x13]) fun r52 =>
 optO (CV.asB r52) fun b53 =>
 bif (!b53) then
 (chkO (room (l49.length + 1) 8) (
 some (.list (b48 && false) (l49 ++ [[CV.int .i64 2]]))))
 else
 (some (.list b48 l49))) := (hold_eq _).trans (by kernel_rfl)

theorem flight_leg_J2_eq (lb : Bool) (n : Nat) (aairn1 : Bool) (aair2 : List (List CV)) (adisn3 : Bool) (adis4 : List (List CV)) (bn5 : Bool) (b6 : List (List CV)) (c7 : Int) (x20 : CV) (x31 : CV) (c9 : List CV) (x10 : CV) (x11 : CV) (x12 : CV) (x13 : CV) (x14 : CV) (r15 : CV) (x18 : CV) (r27 : CV) (x29 : CV) (x22 : CV) (x23 : CV) (x24 : CV) (x25 : CV) (x26 : CV) (x34 : CV) (x35 : CV) (x36 : CV) (x37 : CV) (x38 : CV) (b44 : Bool) (l45 : List (List CV)) :
  flight_leg_J2 lb n aairn1 aair2 adisn3 adis4 bn5 b6 c7 x20 x31 c9 x10 x11 x12 x13 x14 r15 x18 r27 x29 x22 x23 x24 x25 x26 x34 x35 x36 x37 x38 b44 l45 =
 optO (C lb n F_flight_follows [.list bn5 b6, .int .i64 c7]) fun r46 =>
 optO (CV.asB r46) fun b47 =>
 bif (!b47) then
 (chkO (room (l45.length + 1) 8) (
 flight_leg_J3 lb n aairn1 aair2 adisn3 adis4 bn5 b6 c7 x20 x31 c9 x10 x11 x12 x13 x14 r15 x18 r27 x29 x22 x23 x24 x25 x26 x34 x35 x36 x37 x38 (b44 && false) (l45 ++ [[CV.int .i64 15]])))
 else
 (flight_leg_J3 lb n aairn1 aair2 adisn3 adis4 bn5 b6 c7 x20 x31 c9 x10 x11 x12 x13 x14 r15 x18 r27 x29 x22 x23 x24 x25 x26 x34 x35 x36 x37 x38 b44 l45) := (hold_eq _).trans (by kernel_rfl)

theorem flight_leg_J1_eq (lb : Bool) (n : Nat) (aairn1 : Bool) (aair2 : List (List CV)) (adisn3 : Bool) (adis4 : List (List CV)) (bn5 : Bool) (b6 : List (List CV)) (c7 : Int) (x20 : CV) (x31 : CV) (c9 : List CV) (x10 : CV) (x11 : CV) (x12 : CV) (x13 : CV) (x14 : CV) (r15 : CV) (x18 : CV) (r27 : CV) (x29 : CV) (x22 : CV) (x23 : CV) (x24 : CV) (x25 : CV) (x26 : CV) (x34 : CV) (x35 : CV) (x36 : CV) (x37 : CV) (x38 : CV) (b41 : Bool) (l42 : List (List CV)) :
  flight_leg_J1 lb n aairn1 aair2 adisn3 adis4 bn5 b6 c7 x20 x31 c9 x10 x11 x12 x13 x14 r15 x18 r27 x29 x22 x23 x24 x25 x26 x34 x35 x36 x37 x38 b41 l42 =
 optO (CV.asB x20) fun b43 =>
 bif (!b43) then
 (chkO (room (l42.length + 1) 8) (
 flight_leg_J2 lb n aairn1 aair2 adisn3 adis4 bn5 b6 c7 x20 x31 c9 x10 x11 x12 x13 x14 r15 x18 r27 x29 x22 x23 x24 x25 x26 x34 x35 x36 x37 x38 (b41 && false) (l42 ++ [[CV.int .i64 14]])))
 else
 (optO (CV.asB x31) fun b54 =>
 bif (!b54) then
 (chkO (room (l42.length + 1) 8) (
 flight_leg_J2 lb n aairn1 aair2 adisn3 adis4 bn5 b6 c7 x20 x31 c9 x10 x11 x12 x13 x14 r15 x18 r27 x29 x22 x23 x24 x25 x26 x34 x35 x36 x37 x38 (b41 && false) (l42 ++ [[CV.int .i64 14]])))
 else
 (flight_leg_J2 lb n aairn1 aair2 adisn3 adis4 bn5 b6 c7 x20 x31 c9 x10 x11 x12 x13 x14 r15 x18 r27 x29 x22 x23 x24 x25 x26 x34 x35 x36 x37 x38 b41 l42)) := (hold_eq _).trans (by kernel_rfl)

theorem flight_leg_eq (lb : Bool) (n : Nat) (aairn1 : Bool) (aair2 : List (List CV)) (adisn3 : Bool) (adis4 : List (List CV)) (bn5 : Bool) (b6 : List (List CV)) (c7 : Int) :
  top lb n F_flight_leg [.agg [.list aairn1 aair2, .list adisn3 adis4], .list bn5 b6, .int .i64 c7] =
 optO (atL b6 c7) fun c9 =>
 chkO (c9.length == 5) (
 optO (c9[0]?) fun x10 =>
 optO (c9[1]?) fun x11 =>
 optO (c9[2]?) fun x12 =>
 optO (c9[3]?) fun x13 =>
 optO (c9[4]?) fun x14 =>
 optO (C lb n F_places_Find [.agg [.list aairn1 aair2, .list adisn3 adis4], x10]) fun r15 =>
 optO (CV.asT r15) fun t17 =>
 optO (t17[0]?) fun x18 =>
 optO (CV.asT r15) fun t19 =>
 optO (t19[1]?) fun x20 =>
 optO (CV.asA x18) fun c21 =>
 chkO (c21.length == 5) (
 optO (c21[0]?) fun x22 =>
 optO (c21[1]?) fun x23 =>
 optO (c21[2]?) fun x24 =>
 optO (c21[3]?) fun x25 =>
 optO (c21[4]?) fun x26 =>
 optO (C lb n F_places_Find [.agg [.list aairn1 aair2, .list adisn3 adis4], x11]) fun r27 =>
 optO (CV.asT r27) fun t28 =>
 optO (t28[0]?) fun x29 =>
 optO (CV.asT r27) fun t30 =>
 optO (t30[1]?) fun x31 =>
 optO (CV.asA x29) fun c33 =>
 chkO (c33.length == 5) (
 optO (c33[0]?) fun x34 =>
 optO (c33[1]?) fun x35 =>
 optO (c33[2]?) fun x36 =>
 optO (c33[3]?) fun x37 =>
 optO (c33[4]?) fun x38 =>
 optO (C lb n F_text_Code [x14, .int .i64 3, .int .i64 3]) fun r39 =>
 optO (CV.asB r39) fun b40 =>
 bif (!b40) then
 (flight_leg_J1 lb n aairn1 aair2 adisn3 adis4 bn5 b6 c7 x20 x31 c9 x10 x11 x12 x13 x14 r15 x18 r27 x29 x22 x23 x24 x25 x26 x34 x35 x36 x37 x38 false [[CV.int .i64 5]])
 else
 (flight_leg_J1 lb n aairn1 aair2 adisn3 adis4 bn5 b6 c7 x20 x31 c9 x10 x11 x12 x13 x14 r15 x18 r27 x29 x22 x23 x24 x25 x26 x34 x35 x36 x37 x38 true [])))) := by kernel_rfl

/-! airline/flight.follows -/
noncomputable def flight_follows_L1 (lb : Bool) (n : Nat) (k34 : Nat) (an1 : Bool) (a2 : List (List CV)) (b3 : Int) (i22 : Int) : Option CV :=
  hold (loopC (E2 lb n 2 995) 2 (loopTemps (sub (B F_slices_IndexFunc_api_Leg) [1, 0, 1, 0, 0]) ++ [5]) [] (sub (B F_slices_IndexFunc_api_Leg) [1, 0, 1, 0, 0]) (blockK 0 (seqK (E2 lb n 2 998) (sub (B F_slices_IndexFunc_api_Leg) [1, 0]) (sub (B F_slices_IndexFunc_api_Leg) [1, 1]) (retK Tryz.prog (R F_slices_IndexFunc_api_Leg) 2 (inlK (opAt (opsOf (sub (B F_slices_ContainsFunc_api_Leg) [1, 0])) 2) ⟨fr 9 [(0, .val (.list an1 ((a2.take ((IntKind.wrap .i64 (b3 + 1)).toNat)).drop 0))), (1, .clo F_flight_follows_1 [.ptr 0 2 0, .ptr 0 3 0]), (4, .val (.bool false)), (5, .val (.list an1 ((a2.take ((IntKind.wrap .i64 (b3 + 1)).toNat)).drop 0))), (6, .clo F_flight_follows_1 [.ptr 0 2 0, .ptr 0 3 0])], [bx 28 [(2, some [.val (.list an1 a2)]), (3, some [.val (.int .i64 b3)])], bx 9 []], KK⟩ (opsK Tryz.prog (C lb n) (I8 lb n) 1 (opsOf (sub (B F_slices_ContainsFunc_api_Leg) [1, 0])) ((opsOf (sub (B F_slices_ContainsFunc_api_Leg) [1, 0])).drop 3) ((seqK (E1 lb n 1 998) (sub (B F_slices_ContainsFunc_api_Leg) [1, 0]) (sub (B F_slices_ContainsFunc_api_Leg) [1, 1]) (retK Tryz.prog (R F_slices_ContainsFunc_api_Leg) 1 (inlK (opAt (opsOf (sub (B F_flight_follows) [1, 1, 0])) 5) ⟨fr 28 [(0, .val (.list an1 a2)), (1, .val (.int .i64 b3)), (2, .ptr 0 2 0), (3, .ptr 0 3 0), (4, .val (.bool false)), (21, .val (.list an1 a2)), (22, .val (.int .i64 b3)), (23, .val (.int .i64 (IntKind.wrap .i64 (b3 + 1)))), (24, .val (.list an1 ((a2.take ((IntKind.wrap .i64 (b3 + 1)).toNat)).drop 0))), (25, .clo F_flight_follows_1 [.ptr 0 2 0, .ptr 0 3 0])], [bx 28 [(2, some [.val (.list an1 a2)]), (3, some [.val (.int .i64 b3)])]], KK⟩ (opsK Tryz.prog (C lb n) (I9 lb n) 0 (opsOf (sub (B F_flight_follows) [1, 1, 0])) ((opsOf (sub (B F_flight_follows) [1, 1, 0])).drop 6) ((seqK (E0 lb n 0 997) (sub (B F_flight_follows) [1, 1, 0]) (sub (B F_flight_follows) [1, 1, 1]) (retK Tryz.prog (R F_flight_follows) 0 (outK (tightF Tryz.prog F_flight_follows)))) .normal))))) .normal)))))) k34 ⟨fr 19 [(0, .val (.list an1 ((a2.take ((IntKind.wrap .i64 (b3 + 1)).toNat)).drop 0))), (1, .clo F_flight_follows_1 [.ptr 0 2 0, .ptr 0 3 0]), (4, .val (.int .i64 0)), (6, .val (.list an1 ((a2.take ((IntKind.wrap .i64 (b3 + 1)).toNat)).drop 0))), (7, .val (.int .i64 (((a2.take ((IntKind.wrap .i64 (b3 + 1)).toNat)).drop 0).length : Int))), (8, .val (.int .i64 i22))], [bx 28 [(2, some [.val (.list an1 a2)]), (3, some [.val (.int .i64 b3)])], bx 9 [], bx 19 []], KK⟩)

noncomputable def flight_follows_J2 (lb : Bool) (n : Nat) (an1 : Bool) (a2 : List (List CV)) (b3 : Int) : Option CV :=
  hold (E2 lb n 2 998 (sub (B F_slices_IndexFunc_api_Leg) [1, 1]) (retK Tryz.prog (R F_slices_IndexFunc_api_Leg) 2 (inlK (opAt (opsOf (sub (B F_slices_ContainsFunc_api_Leg) [1, 0])) 2) ⟨fr 9 [(0, .val (.list an1 ((a2.take ((IntKind.wrap .i64 (b3 + 1)).toNat)).drop 0))), (1, .clo F_flight_follows_1 [.ptr 0 2 0, .ptr 0 3 0]), (4, .val (.bool false)), (5, .val (.list an1 ((a2.take ((IntKind.wrap .i64 (b3 + 1)).toNat)).drop 0))), (6, .clo F_flight_follows_1 [.ptr 0 2 0, .ptr 0 3 0])], [bx 28 [(2, some [.val (.list an1 a2)]), (3, some [.val (.int .i64 b3)])], bx 9 []], KK⟩ (opsK Tryz.prog (C lb n) (I8 lb n) 1 (opsOf (sub (B F_slices_ContainsFunc_api_Leg) [1, 0])) ((opsOf (sub (B F_slices_ContainsFunc_api_Leg) [1, 0])).drop 3) ((seqK (E1 lb n 1 998) (sub (B F_slices_ContainsFunc_api_Leg) [1, 0]) (sub (B F_slices_ContainsFunc_api_Leg) [1, 1]) (retK Tryz.prog (R F_slices_ContainsFunc_api_Leg) 1 (inlK (opAt (opsOf (sub (B F_flight_follows) [1, 1, 0])) 5) ⟨fr 28 [(0, .val (.list an1 a2)), (1, .val (.int .i64 b3)), (2, .ptr 0 2 0), (3, .ptr 0 3 0), (4, .val (.bool false)), (21, .val (.list an1 a2)), (22, .val (.int .i64 b3)), (23, .val (.int .i64 (IntKind.wrap .i64 (b3 + 1)))), (24, .val (.list an1 ((a2.take ((IntKind.wrap .i64 (b3 + 1)).toNat)).drop 0))), (25, .clo F_flight_follows_1 [.ptr 0 2 0, .ptr 0 3 0])], [bx 28 [(2, some [.val (.list an1 a2)]), (3, some [.val (.int .i64 b3)])]], KK⟩ (opsK Tryz.prog (C lb n) (I9 lb n) 0 (opsOf (sub (B F_flight_follows) [1, 1, 0])) ((opsOf (sub (B F_flight_follows) [1, 1, 0])).drop 6) ((seqK (E0 lb n 0 997) (sub (B F_flight_follows) [1, 1, 0]) (sub (B F_flight_follows) [1, 1, 1]) (retK Tryz.prog (R F_flight_follows) 0 (outK (tightF Tryz.prog F_flight_follows)))) .normal))))) .normal)))) ⟨fr 19 [(0, .val (.list an1 ((a2.take ((IntKind.wrap .i64 (b3 + 1)).toNat)).drop 0))), (1, .clo F_flight_follows_1 [.ptr 0 2 0, .ptr 0 3 0]), (4, .val (.int .i64 0))], [bx 28 [(2, some [.val (.list an1 a2)]), (3, some [.val (.int .i64 b3)])], bx 9 [], bx 19 []], KK⟩)

theorem flight_follows_J2_eq (lb : Bool) (n : Nat) (an1 : Bool) (a2 : List (List CV)) (b3 : Int) :
  flight_follows_J2 lb n an1 a2 b3 =
 some (.bool true) := (hold_eq _).trans (by kernel_rfl)

theorem flight_follows_L1_succ (lb : Bool) (n k34 : Nat) (an1 : Bool) (a2 : List (List CV)) (b3 : Int) (i22 : Int) :
  flight_follows_L1 lb n (k34 + 1) an1 a2 b3 i22 =
 bif (decide (i22 < (((a2.take ((IntKind.wrap .i64 (b3 + 1)).toNat)).drop 0).length : Int))) then
 (optO (atL ((a2.take ((IntKind.wrap .i64 (b3 + 1)).toNat)).drop 0) i22) fun c35 =>
 chkO (c35.length == 5) (
 optO (c35[0]?) fun x36 =>
 optO (c35[1]?) fun x37 =>
 optO (c35[2]?) fun x38 =>
 optO (c35[3]?) fun x39 =>
 optO (c35[4]?) fun x40 =>
 optO (atL a2 b3) fun c41 =>
 chkO (c41.length == 5) (
 optO (c41[1]?) fun x42 =>
 optO (CV.asS x36) fun s43 =>
 optO (CV.asS x42) fun s44 =>
 bif (s43 == s44) then
 (some (.bool (!(decide (i22 ≥ 0)))))
 else
 (flight_follows_L1 lb n k34 an1 a2 b3 (IntKind.wrap .i64 (i22 + 1))))))
 else
 (flight_follows_J2 lb n an1 a2 b3 ) := (hold_eq _).trans (by kernel_rfl)

theorem flight_follows_L1_zero (lb : Bool) (n : Nat) (an1 : Bool) (a2 : List (List CV)) (b3 : Int) (i22 : Int) :
  flight_follows_L1 lb n 0 an1 a2 b3 i22 =
 none := (hold_eq _).trans (by kernel_rfl)

theorem flight_follows_eq (lb : Bool) (n : Nat) (an1 : Bool) (a2 : List (List CV)) (b3 : Int) :
  top lb n F_flight_follows [.list an1 a2, .int .i64 b3] =
 bif (decide (b3 > 0)) then
 (optO (atL a2 b3) fun c4 =>
 chkO (c4.length == 5) (
 optO (c4[0]?) fun x5 =>
 optO (atL a2 (IntKind.wrap .i64 (b3 - 1))) fun c6 =>
 chkO (c6.length == 5) (
 optO (c6[1]?) fun x7 =>
 optO (CV.asS x5) fun s9 =>
 optO (CV.asS x7) fun s10 =>
 bif (!(s9 == s10)) then
 (some (.bool false))
 else
 (chkO (a2.all (·.length == 5)) (
 chkO (decide ((0 : Int) ≤ (IntKind.wrap .i64 (b3 + 1)) ∧ (IntKind.wrap .i64 (b3 + 1)) ≤ (a2.length : Int))) (
 flight_follows_L1 lb n n an1 a2 b3 0))))))
 else
 (chkO (a2.all (·.length == 5)) (
 chkO (decide ((0 : Int) ≤ (IntKind.wrap .i64 (b3 + 1)) ∧ (IntKind.wrap .i64 (b3 + 1)) ≤ (a2.length : Int))) (
 flight_follows_L1 lb n n an1 a2 b3 0))) := by kernel_rfl

/-! airline/airlineref07.broken -/
noncomputable def r07_broken_L1 (lb : Bool) (n : Nat) (k25 : Nat) (an1 : Bool) (a2 : List (List CV)) (b3 : Int) (i18 : Int) : Option CV :=
  hold (loopC (E0 lb n 0 994) 0 (loopTemps (sub (B F_r07_broken) [1, 1, 0, 1, 0, 0]) ++ []) [] (sub (B F_r07_broken) [1, 1, 0, 1, 0, 0]) (blockK 0 (seqK (E0 lb n 0 997) (sub (B F_r07_broken) [1, 1, 0]) (sub (B F_r07_broken) [1, 1, 1]) (retK Tryz.prog (R F_r07_broken) 0 (outK (tightF Tryz.prog F_r07_broken))))) k25 ⟨fr 38 [(0, .val (.list an1 a2)), (1, .val (.int .i64 b3)), (4, .val (.bool false)), (5, .val (.int .i64 i18))], [bx 38 []], KK⟩)

noncomputable def r07_broken_J2 (lb : Bool) (n : Nat) (an1 : Bool) (a2 : List (List CV)) (b3 : Int) (i33 : Int) : Option CV :=
  hold (E0 lb n 0 997 (sub (B F_r07_broken) [1, 1, 1]) (retK Tryz.prog (R F_r07_broken) 0 (outK (tightF Tryz.prog F_r07_broken))) ⟨fr 38 [(0, .val (.list an1 a2)), (1, .val (.int .i64 b3)), (4, .val (.bool false)), (5, .val (.int .i64 i33))], [bx 38 []], KK⟩)

theorem r07_broken_J2_eq (lb : Bool) (n : Nat) (an1 : Bool) (a2 : List (List CV)) (b3 : Int) (i33 : Int) :
  r07_broken_J2 lb n an1 a2 b3 i33 =
 some (.bool false) := (hold_eq _).trans (by kernel_rfl)

theorem r07_broken_L1_succ (lb : Bool) (n k25 : Nat) (an1 : Bool) (a2 : List (List CV)) (b3 : Int) (i18 : Int) :
  r07_broken_L1 lb n (k25 + 1) an1 a2 b3 i18 =
 bif (decide (i18 ≤ b3)) then
 (optO (atL a2 i18) fun c26 =>
 chkO (c26.length == 5) (
 optO (c26[0]?) fun x27 =>
 optO (atL a2 b3) fun c28 =>
 chkO (c28.length == 5) (
 optO (c28[1]?) fun x29 =>
 optO (CV.asS x27) fun s30 =>
 optO (CV.asS x29) fun s31 =>
 bif (s30 == s31) then
 (some (.bool true))
 else
 (r07_broken_L1 lb n k25 an1 a2 b3 (IntKind.wrap .i64 (i18 + 1))))))
 else
 (r07_broken_J2 lb n an1 a2 b3 i18) := (hold_eq _).trans (by kernel_rfl)

theorem r07_broken_L1_zero (lb : Bool) (n : Nat) (an1 : Bool) (a2 : List (List CV)) (b3 : Int) (i18 : Int) :
  r07_broken_L1 lb n 0 an1 a2 b3 i18 =
 none := (hold_eq _).trans (by kernel_rfl)

theorem r07_broken_eq (lb : Bool) (n : Nat) (an1 : Bool) (a2 : List (List CV)) (b3 : Int) :
  top lb n F_r07_broken [.list an1 a2, .int .i64 b3] =
 bif (decide (b3 > 0)) then
 (optO (atL a2 b3) fun c4 =>
 chkO (c4.length == 5) (
 optO (c4[0]?) fun x5 =>
 optO (atL a2 (IntKind.wrap .i64 (b3 - 1))) fun c6 =>
 chkO (c6.length == 5) (
 optO (c6[1]?) fun x7 =>
 optO (CV.asS x5) fun s9 =>
 optO (CV.asS x7) fun s10 =>
 bif (!(s9 == s10)) then
 (some (.bool true))
 else
 (r07_broken_L1 lb n n an1 a2 b3 0))))
 else
 (r07_broken_L1 lb n n an1 a2 b3 0) := by kernel_rfl

/-! airline/airlineref07.head -/
noncomputable def r07_head_J1 (lb : Bool) (n : Nat) (acar1 : List UInt8) (anum2 : Int) (aperfro3 : Int) (aperto4 : Int) (aperday5 : Int) (alegn6 : Bool) (aleg7 : List (List CV)) (b11 : Bool) (l12 : List (List CV)) : Option CV :=
  hold (E0 lb n 0 997 (sub (B F_r07_head) [1, 1, 1]) (retOwn (R F_r07_head) 68) ⟨fr 50 [(0, .val (.agg [.str acar1, .int .i64 anum2, .int .i64 aperfro3, .int .i64 aperto4, .int .i64 aperday5, .list alegn6 aleg7])), (1, .ptr 0 1 0), (2, .lst true true 68 []), (3, .lst true b11 68 l12)], [bx 50 [(1, some [.val (.str acar1), .val (.int .i64 anum2), .val (.int .i64 aperfro3), .val (.int .i64 aperto4), .val (.int .i64 aperday5), .val (.list alegn6 aleg7)])]], KK⟩)

noncomputable def r07_head_J2 (lb : Bool) (n : Nat) (acar1 : List UInt8) (anum2 : Int) (aperfro3 : Int) (aperto4 : Int) (aperday5 : Int) (alegn6 : Bool) (aleg7 : List (List CV)) (b13 : Bool) (l14 : List (List CV)) : Option CV :=
  hold (E0 lb n 0 996 (sub (B F_r07_head) [1, 1, 1, 1]) (retOwn (R F_r07_head) 68) ⟨fr 50 [(0, .val (.agg [.str acar1, .int .i64 anum2, .int .i64 aperfro3, .int .i64 aperto4, .int .i64 aperday5, .list alegn6 aleg7])), (1, .ptr 0 1 0), (2, .lst true true 68 []), (3, .lst true b13 68 l14)], [bx 50 [(1, some [.val (.str acar1), .val (.int .i64 anum2), .val (.int .i64 aperfro3), .val (.int .i64 aperto4), .val (.int .i64 aperday5), .val (.list alegn6 aleg7)])]], KK⟩)

noncomputable def r07_head_J3 (lb : Bool) (n : Nat) (acar1 : List UInt8) (anum2 : Int) (aperfro3 : Int) (aperto4 : Int) (aperday5 : Int) (alegn6 : Bool) (aleg7 : List (List CV)) (b19 : Bool) (l20 : List (List CV)) : Option CV :=
  hold (E0 lb n 0 995 (sub (B F_r07_head) [1, 1, 1, 1, 1]) (retOwn (R F_r07_head) 68) ⟨fr 50 [(0, .val (.agg [.str acar1, .int .i64 anum2, .int .i64 aperfro3, .int .i64 aperto4, .int .i64 aperday5, .list alegn6 aleg7])), (1, .ptr 0 1 0), (2, .lst true true 68 []), (3, .lst true b19 68 l20)], [bx 50 [(1, some [.val (.str acar1), .val (.int .i64 anum2), .val (.int .i64 aperfro3), .val (.int .i64 aperto4), .val (.int .i64 aperday5), .val (.list alegn6 aleg7)])]], KK⟩)

theorem r07_head_J3_eq (lb : Bool) (n : Nat) (acar1 : List UInt8) (anum2 : Int) (aperfro3 : Int) (aperto4 : Int) (aperday5 : Int) (alegn6 : Bool) (aleg7 : List (List CV)) (b19 : Bool) (l20 : List (List CV)) :
  r07_head_J3 lb n acar1 anum2 aperfro3 aperto4 aperday5 alegn6 aleg7 b19 l20 =
 bif (decide ((aleg7.length : Int) < 1)) then
 (chkO (room (l20.length + 1) 24) (
 some (.list (b19 && false) (l20 ++ [[CV.int .i64 4, CV.str [108, 101, 103, 115]]]))))
 else
 (bif (decide ((aleg7.length : Int) > 6)) then
 (chkO (room (l20.length + 1) 24) (
 some (.list (b19 && false) (l20 ++ [[CV.int .i64 4, CV.str [108, 101, 103, 115]]]))))
 else
 (some (.list b19 l20))) := (hold_eq _).trans (by kernel_rfl)

theorem r07_head_J2_eq (lb : Bool) (n : Nat) (acar1 : List UInt8) (anum2 : Int) (aperfro3 : Int) (aperto4 : Int) (aperday5 : Int) (alegn6 : Bool) (aleg7 : List (List CV)) (b13 : Bool) (l14 : List (List CV)) :
  r07_head_J2 lb n acar1 anum2 aperfro3 aperto4 aperday5 alegn6 aleg7 b13 l14 =
 optO (C lb n F_r04_Check [.agg [.int .i64 aperfro3, .int .i64 aperto4, .int .i64 aperday5]]) fun r15 =>
 optO (CV.asI .i64 r15) fun i17 =>
 bif (i17 != 0) then
 (optO (C lb n F_r04_Check [.agg [.int .i64 aperfro3, .int .i64 aperto4, .int .i64 aperday5]]) fun r18 =>
 chkO (CV.isCell r18) (
 chkO (room (l14.length + 1) 24) (
 r07_head_J3 lb n acar1 anum2 aperfro3 aperto4 aperday5 alegn6 aleg7 (b13 && false) (l14 ++ [[r18, CV.str [112, 101, 114, 105, 111, 100]]]))))
 else
 (r07_head_J3 lb n acar1 anum2 aperfro3 aperto4 aperday5 alegn6 aleg7 b13 l14) := (hold_eq _).trans (by kernel_rfl)

theorem r07_head_J1_eq (lb : Bool) (n : Nat) (acar1 : List UInt8) (anum2 : Int) (aperfro3 : Int) (aperto4 : Int) (aperday5 : Int) (alegn6 : Bool) (aleg7 : List (List CV)) (b11 : Bool) (l12 : List (List CV)) :
  r07_head_J1 lb n acar1 anum2 aperfro3 aperto4 aperday5 alegn6 aleg7 b11 l12 =
 bif (decide (anum2 < 1)) then
 (chkO (room (l12.length + 1) 24) (
 r07_head_J2 lb n acar1 anum2 aperfro3 aperto4 aperday5 alegn6 aleg7 (b11 && false) (l12 ++ [[CV.int .i64 2, CV.str [110, 117, 109, 98, 101, 114]]])))
 else
 (bif (decide (anum2 > 9999)) then
 (chkO (room (l12.length + 1) 24) (
 r07_head_J2 lb n acar1 anum2 aperfro3 aperto4 aperday5 alegn6 aleg7 (b11 && false) (l12 ++ [[CV.int .i64 2, CV.str [110, 117, 109, 98, 101, 114]]])))
 else
 (r07_head_J2 lb n acar1 anum2 aperfro3 aperto4 aperday5 alegn6 aleg7 b11 l12)) := (hold_eq _).trans (by kernel_rfl)

theorem r07_head_eq (lb : Bool) (n : Nat) (acar1 : List UInt8) (anum2 : Int) (aperfro3 : Int) (aperto4 : Int) (aperday5 : Int) (alegn6 : Bool) (aleg7 : List (List CV)) :
  top lb n F_r07_head [.agg [.str acar1, .int .i64 anum2, .int .i64 aperfro3, .int .i64 aperto4, .int .i64 aperday5, .list alegn6 aleg7]] =
 optO (C lb n F_r01_Carrier [.str acar1]) fun r9 =>
 optO (CV.asB r9) fun b10 =>
 bif (!b10) then
 (r07_head_J1 lb n acar1 anum2 aperfro3 aperto4 aperday5 alegn6 aleg7 false [[CV.int .i64 5, CV.str [99, 97, 114, 114, 105, 101, 114]]])
 else
 (r07_head_J1 lb n acar1 anum2 aperfro3 aperto4 aperday5 alegn6 aleg7 true []) := by kernel_rfl

/-! airline/airlineref07.Check -/
noncomputable def r07_Check_L1 (lb : Bool) (n : Nat) (k362 : Nat) (aairn1 : Bool) (aair2 : List (List CV)) (adisn3 : Bool) (adis4 : List (List CV)) (bcar5 : List UInt8) (bnum6 : Int) (bperfro7 : Int) (bperto9 : Int) (bperday10 : Int) (blegn11 : Bool) (bleg12 : List (List CV)) (p14 : Bool × List (List CV)) (b241 : Bool) (l242 : List (List CV)) (i243 : Int) : Option CV :=
  hold (loopC (E0 lb n 0 993) 0 (loopTemps (sub (B F_r07_Check) [1, 1, 1, 0, 1, 0, 0]) ++ [8, 10, 12]) [7, 9, 11] (sub (B F_r07_Check) [1, 1, 1, 0, 1, 0, 0]) (blockK 0 (seqK (E0 lb n 0 996) (sub (B F_r07_Check) [1, 1, 1, 0]) (sub (B F_r07_Check) [1, 1, 1, 1]) (retK Tryz.prog (R F_r07_Check) 0 (outK (tightF Tryz.prog F_r07_Check))))) k362 ⟨fr 133 [(0, .val (.agg [.list aairn1 aair2, .list adisn3 adis4])), (1, .val (.agg [.str bcar5, .int .i64 bnum6, .int .i64 bperfro7, .int .i64 bperto9, .int .i64 bperday10, .list blegn11 bleg12])), (2, .ptr 0 2 0), (3, .ptr 0 3 0), (4, .lst true true 68 []), (5, .lst true b241 68 l242), (6, .val (.int .i64 i243)), (15, .val (.agg [.str bcar5, .int .i64 bnum6, .int .i64 bperfro7, .int .i64 bperto9, .int .i64 bperday10, .list blegn11 bleg12])), (16, .val (.list p14.1 p14.2))], [bx 133 [(2, some [.val (.list aairn1 aair2), .val (.list adisn3 adis4)]), (3, some [.val (.str bcar5), .val (.int .i64 bnum6), .val (.int .i64 bperfro7), .val (.int .i64 bperto9), .val (.int .i64 bperday10), .val (.list blegn11 bleg12)])]], KK⟩)

noncomputable def r07_Check_J2 (lb : Bool) (n : Nat) (k362 : Nat) (aairn1 : Bool) (aair2 : List (List CV)) (adisn3 : Bool) (adis4 : List (List CV)) (bcar5 : List UInt8) (bnum6 : Int) (bperfro7 : Int) (bperto9 : Int) (bperday10 : Int) (blegn11 : Bool) (bleg12 : List (List CV)) (i243 : Int) (s370 : List UInt8) (p14 : Bool × List (List CV)) (c363 : List CV) (x364 : CV) (x365 : CV) (x366 : CV) (x367 : CV) (x368 : CV) (r369 : CV) (b373 : Bool) (l374 : List (List CV)) : Option CV :=
  hold (E0 lb n 0 987 (sub (B F_r07_Check) [1, 1, 1, 0, 1, 0, 0, 1, 0, 0, 1, 1, 1]) (blockK 1 (seqK (E0 lb n 0 991) (sub (B F_r07_Check) [1, 1, 1, 0, 1, 0, 0, 1, 0]) (sub (B F_r07_Check) [1, 1, 1, 0, 1, 0, 0, 1, 1]) (loopK 0 (loopTemps (sub (B F_r07_Check) [1, 1, 1, 0, 1, 0, 0]) ++ [8, 10, 12]) [7, 9, 11] (loopC (E0 lb n 0 993) 0 (loopTemps (sub (B F_r07_Check) [1, 1, 1, 0, 1, 0, 0]) ++ [8, 10, 12]) [7, 9, 11] (sub (B F_r07_Check) [1, 1, 1, 0, 1, 0, 0]) (blockK 0 (seqK (E0 lb n 0 996) (sub (B F_r07_Check) [1, 1, 1, 0]) (sub (B F_r07_Check) [1, 1, 1, 1]) (retK Tryz.prog (R F_r07_Check) 0 (outK (tightF Tryz.prog F_r07_Check))))) k362) (blockK 0 (seqK (E0 lb n 0 996) (sub (B F_r07_Check) [1, 1, 1, 0]) (sub (B F_r07_Check) [1, 1, 1, 1]) (retK Tryz.prog (R F_r07_Check) 0 (outK (tightF Tryz.prog F_r07_Check)))))))) ⟨fr 133 [(0, .val (.agg [.list aairn1 aair2, .list adisn3 adis4])), (1, .val (.agg [.str bcar5, .int .i64 bnum6, .int .i64 bperfro7, .int .i64 bperto9, .int .i64 bperday10, .list blegn11 bleg12])), (2, .ptr 0 2 0), (3, .ptr 0 3 0), (4, .lst true true 68 []), (5, .lst true b373 68 l374), (6, .val (.int .i64 i243)), (7, .ptr 0 7 0), (8, .val (.str (([108, 101, 103, 32] : List UInt8) ++ s370))), (15, .val (.agg [.str bcar5, .int .i64 bnum6, .int .i64 bperfro7, .int .i64 bperto9, .int .i64 bperday10, .list blegn11 bleg12])), (16, .val (.list p14.1 p14.2)), (35, .ptr 0 3 5), (36, .val (.list blegn11 bleg12)), (37, .val (.int .i64 i243)), (38, .cptr c363 0), (39, .val (.agg [x364, x365, x366, x367, x368])), (40, .val (.int .i64 i243)), (41, .val r369), (42, .val (.str (([108, 101, 103, 32] : List UInt8) ++ s370)))], [bx 133 [(2, some [.val (.list aairn1 aair2), .val (.list adisn3 adis4)]), (3, some [.val (.str bcar5), .val (.int .i64 bnum6), .val (.int .i64 bperfro7), .val (.int .i64 bperto9), .val (.int .i64 bperday10), .val (.list blegn11 bleg12)]), (7, some [.val x364, .val x365, .val x366, .val x367, .val x368])]], KK⟩)

noncomputable def r07_Check_J3 (lb : Bool) (n : Nat) (k362 : Nat) (aairn1 : Bool) (aair2 : List (List CV)) (adisn3 : Bool) (adis4 : List (List CV)) (bcar5 : List UInt8) (bnum6 : Int) (bperfro7 : Int) (bperto9 : Int) (bperday10 : Int) (blegn11 : Bool) (bleg12 : List (List CV)) (i243 : Int) (s370 : List UInt8) (x379 : CV) (x390 : CV) (p14 : Bool × List (List CV)) (c363 : List CV) (x364 : CV) (x365 : CV) (x366 : CV) (x367 : CV) (x368 : CV) (r369 : CV) (r375 : CV) (x377 : CV) (r386 : CV) (x388 : CV) (x381 : CV) (x382 : CV) (x383 : CV) (x384 : CV) (x385 : CV) (x392 : CV) (x393 : CV) (x394 : CV) (x395 : CV) (x396 : CV) (b398 : Bool) (l399 : List (List CV)) : Option CV :=
  hold (E0 lb n 0 984 (sub (B F_r07_Check) [1, 1, 1, 0, 1, 0, 0, 1, 0, 0, 1, 1, 1, 1, 1, 1]) (blockK 1 (seqK (E0 lb n 0 991) (sub (B F_r07_Check) [1, 1, 1, 0, 1, 0, 0, 1, 0]) (sub (B F_r07_Check) [1, 1, 1, 0, 1, 0, 0, 1, 1]) (loopK 0 (loopTemps (sub (B F_r07_Check) [1, 1, 1, 0, 1, 0, 0]) ++ [8, 10, 12]) [7, 9, 11] (loopC (E0 lb n 0 993) 0 (loopTemps (sub (B F_r07_Check) [1, 1, 1, 0, 1, 0, 0]) ++ [8, 10, 12]) [7, 9, 11] (sub (B F_r07_Check) [1, 1, 1, 0, 1, 0, 0]) (blockK 0 (seqK (E0 lb n 0 996) (sub (B F_r07_Check) [1, 1, 1, 0]) (sub (B F_r07_Check) [1, 1, 1, 1]) (retK Tryz.prog (R F_r07_Check) 0 (outK (tightF Tryz.prog F_r07_Check))))) k362) (blockK 0 (seqK (E0 lb n 0 996) (sub (B F_r07_Check) [1, 1, 1, 0]) (sub (B F_r07_Check) [1, 1, 1, 1]) (retK Tryz.prog (R F_r07_Check) 0 (outK (tightF Tryz.prog F_r07_Check)))))))) ⟨fr 133 [(0, .val (.agg [.list aairn1 aair2, .list adisn3 adis4])), (1, .val (.agg [.str bcar5, .int .i64 bnum6, .int .i64 bperfro7, .int .i64 bperto9, .int .i64 bperday10, .list blegn11 bleg12])), (2, .ptr 0 2 0), (3, .ptr 0 3 0), (4, .lst true true 68 []), (5, .lst true b398 68 l399), (6, .val (.int .i64 i243)), (7, .ptr 0 7 0), (8, .val (.str (([108, 101, 103, 32] : List UInt8) ++ s370))), (9, .ptr 0 9 0), (10, .val x379), (11, .ptr 0 11 0), (12, .val x390), (15, .val (.agg [.str bcar5, .int .i64 bnum6, .int .i64 bperfro7, .int .i64 bperto9, .int .i64 bperday10, .list blegn11 bleg12])), (16, .val (.list p14.1 p14.2)), (35, .ptr 0 3 5), (36, .val (.list blegn11 bleg12)), (37, .val (.int .i64 i243)), (38, .cptr c363 0), (39, .val (.agg [x364, x365, x366, x367, x368])), (40, .val (.int .i64 i243)), (41, .val r369), (42, .val (.str (([108, 101, 103, 32] : List UInt8) ++ s370))), (52, .val r375), (53, .val (.agg [.list aairn1 aair2, .list adisn3 adis4])), (54, .ptr 0 7 0), (55, .val x364), (56, .val r375), (57, .val x377), (58, .val x379), (59, .val r386), (60, .val (.agg [.list aairn1 aair2, .list adisn3 adis4])), (61, .ptr 0 7 1), (62, .val x365), (63, .val r386), (64, .val x388), (65, .val x390)], [bx 133 [(2, some [.val (.list aairn1 aair2), .val (.list adisn3 adis4)]), (3, some [.val (.str bcar5), .val (.int .i64 bnum6), .val (.int .i64 bperfro7), .val (.int .i64 bperto9), .val (.int .i64 bperday10), .val (.list blegn11 bleg12)]), (7, some [.val x364, .val x365, .val x366, .val x367, .val x368]), (9, some [.val x381, .val x382, .val x383, .val x384, .val x385]), (11, some [.val x392, .val x393, .val x394, .val x395, .val x396])]], KK⟩)

noncomputable def r07_Check_J4 (lb : Bool) (n : Nat) (k362 : Nat) (aairn1 : Bool) (aair2 : List (List CV)) (adisn3 : Bool) (adis4 : List (List CV)) (bcar5 : List UInt8) (bnum6 : Int) (bperfro7 : Int) (bperto9 : Int) (bperday10 : Int) (blegn11 : Bool) (bleg12 : List (List CV)) (i243 : Int) (s370 : List UInt8) (x379 : CV) (x390 : CV) (p14 : Bool × List (List CV)) (c363 : List CV) (x364 : CV) (x365 : CV) (x366 : CV) (x367 : CV) (x368 : CV) (r369 : CV) (r375 : CV) (x377 : CV) (r386 : CV) (x388 : CV) (x381 : CV) (x382 : CV) (x383 : CV) (x384 : CV) (x385 : CV) (x392 : CV) (x393 : CV) (x394 : CV) (x395 : CV) (x396 : CV) (b402 : Bool) (l403 : List (List CV)) : Option CV :=
  hold (E0 lb n 0 983 (sub (B F_r07_Check) [1, 1, 1, 0, 1, 0, 0, 1, 0, 0, 1, 1, 1, 1, 1, 1, 1]) (blockK 1 (seqK (E0 lb n 0 991) (sub (B F_r07_Check) [1, 1, 1, 0, 1, 0, 0, 1, 0]) (sub (B F_r07_Check) [1, 1, 1, 0, 1, 0, 0, 1, 1]) (loopK 0 (loopTemps (sub (B F_r07_Check) [1, 1, 1, 0, 1, 0, 0]) ++ [8, 10, 12]) [7, 9, 11] (loopC (E0 lb n 0 993) 0 (loopTemps (sub (B F_r07_Check) [1, 1, 1, 0, 1, 0, 0]) ++ [8, 10, 12]) [7, 9, 11] (sub (B F_r07_Check) [1, 1, 1, 0, 1, 0, 0]) (blockK 0 (seqK (E0 lb n 0 996) (sub (B F_r07_Check) [1, 1, 1, 0]) (sub (B F_r07_Check) [1, 1, 1, 1]) (retK Tryz.prog (R F_r07_Check) 0 (outK (tightF Tryz.prog F_r07_Check))))) k362) (blockK 0 (seqK (E0 lb n 0 996) (sub (B F_r07_Check) [1, 1, 1, 0]) (sub (B F_r07_Check) [1, 1, 1, 1]) (retK Tryz.prog (R F_r07_Check) 0 (outK (tightF Tryz.prog F_r07_Check)))))))) ⟨fr 133 [(0, .val (.agg [.list aairn1 aair2, .list adisn3 adis4])), (1, .val (.agg [.str bcar5, .int .i64 bnum6, .int .i64 bperfro7, .int .i64 bperto9, .int .i64 bperday10, .list blegn11 bleg12])), (2, .ptr 0 2 0), (3, .ptr 0 3 0), (4, .lst true true 68 []), (5, .lst true b402 68 l403), (6, .val (.int .i64 i243)), (7, .ptr 0 7 0), (8, .val (.str (([108, 101, 103, 32] : List UInt8) ++ s370))), (9, .ptr 0 9 0), (10, .val x379), (11, .ptr 0 11 0), (12, .val x390), (15, .val (.agg [.str bcar5, .int .i64 bnum6, .int .i64 bperfro7, .int .i64 bperto9, .int .i64 bperday10, .list blegn11 bleg12])), (16, .val (.list p14.1 p14.2)), (35, .ptr 0 3 5), (36, .val (.list blegn11 bleg12)), (37, .val (.int .i64 i243)), (38, .cptr c363 0), (39, .val (.agg [x364, x365, x366, x367, x368])), (40, .val (.int .i64 i243)), (41, .val r369), (42, .val (.str (([108, 101, 103, 32] : List UInt8) ++ s370))), (52, .val r375), (53, .val (.agg [.list aairn1 aair2, .list adisn3 adis4])), (54, .ptr 0 7 0), (55, .val x364), (56, .val r375), (57, .val x377), (58, .val x379), (59, .val r386), (60, .val (.agg [.list aairn1 aair2, .list adisn3 adis4])), (61, .ptr 0 7 1), (62, .val x365), (63, .val r386), (64, .val x388), (65, .val x390)], [bx 133 [(2, some [.val (.list aairn1 aair2), .val (.list adisn3 adis4)]), (3, some [.val (.str bcar5), .val (.int .i64 bnum6), .val (.int .i64 bperfro7), .val (.int .i64 bperto9), .val (.int .i64 bperday10), .val (.list blegn11 bleg12)]), (7, some [.val x364, .val x365, .val x366, .val x367, .val x368]), (9, some [.val x381, .val x382, .val x383, .val x384, .val x385]), (11, some [.val x392, .val x393, .val x394, .val x395, .val x396])]], KK⟩)

theorem r07_Check_J4_eq (lb : Bool) (n : Nat) (k362 : Nat) (aairn1 : Bool) (aair2 : List (List CV)) (adisn3 : Bool) (adis4 : List (List CV)) (bcar5 : List UInt8) (bnum6 : Int) (bperfro7 : Int) (bperto9 : Int) (bperday10 : Int) (blegn11 : Bool) (bleg12 : List (List CV)) (i243 : Int) (s370 : List UInt8) (x379 : CV) (x390 : CV) (p14 : Bool × List (List CV)) (c363 : List CV) (x364 : CV) (x365 : CV) (x366 : CV) (x367 : CV) (x368 : CV) (r369 : CV) (r375 : CV) (x377 : CV) (r386 : CV) (x388 : CV) (x381 : CV) (x382 : CV) (x383 : CV) (x384 : CV) (x385 : CV) (x392 : CV) (x393 : CV) (x394 : CV) (x395 : CV) (x396 : CV) (b402 : Bool) (l403 : List (List CV)) :
  r07_Check_J4 lb n k362 aairn1 aair2 adisn3 adis4 bcar5 bnum6 bperfro7 bperto9 bperday10 blegn11 bleg12 i243 s370 x379 x390 p14 c363 x364 x365 x366 x367 x368 r369 r375 x377 r386 x388 x381 x382 x383 x384 x385 x392 x393 x394 x395 x396 b402 l403 =
 optO (C lb n F_r07_out [x366]) fun r404 =>
 optO (CV.asB r404) fun b405 =>
 bif b405 then
 (chkO (room (l403.length + 1) 24) (
 r07_Check_L1 lb n k362 aairn1 aair2 adisn3 adis4 bcar5 bnum6 bperfro7 bperto9 bperday10 blegn11 bleg12 p14 (b402 && false) (l403 ++ [[CV.int .i64 2, CV.str (([108, 101, 103, 32] : List UInt8) ++ s370)]]) (IntKind.wrap .i64 (i243 + 1))))
 else
 (optO (C lb n F_r07_out [x367]) fun r406 =>
 optO (CV.asB r406) fun b407 =>
 bif b407 then
 (chkO (room (l403.length + 1) 24) (
 r07_Check_L1 lb n k362 aairn1 aair2 adisn3 adis4 bcar5 bnum6 bperfro7 bperto9 bperday10 blegn11 bleg12 p14 (b402 && false) (l403 ++ [[CV.int .i64 2, CV.str (([108, 101, 103, 32] : List UInt8) ++ s370)]]) (IntKind.wrap .i64 (i243 + 1))))
 else
 (r07_Check_L1 lb n k362 aairn1 aair2 adisn3 adis4 bcar5 bnum6 bperfro7 bperto9 bperday10 blegn11 bleg12 p14 b402 l403 (IntKind.wrap .i64 (i243 + 1)))) := (hold_eq _).trans (by kernel_rfl)

theorem r07_Check_J3_eq (lb : Bool) (n : Nat) (k362 : Nat) (aairn1 : Bool) (aair2 : List (List CV)) (adisn3 : Bool) (adis4 : List (List CV)) (bcar5 : List UInt8) (bnum6 : Int) (bperfro7 : Int) (bperto9 : Int) (bperday10 : Int) (blegn11 : Bool) (bleg12 : List (List CV)) (i243 : Int) (s370 : List UInt8) (x379 : CV) (x390 : CV) (p14 : Bool × List (List CV)) (c363 : List CV) (x364 : CV) (x365 : CV) (x366 : CV) (x367 : CV) (x368 : CV) (r369 : CV) (r375 : CV) (x377 : CV) (r386 : CV) (x388 : CV) (x381 : CV) (x382 : CV) (x383 : CV) (x384 : CV) (x385 : CV) (x392 : CV) (x393 : CV) (x394 : CV) (x395 : CV) (x396 : CV) (b398 : Bool) (l399 : List (List CV)) :
  r07_Check_J3 lb n k362 aairn1 aair2 adisn3 adis4 bcar5 bnum6 bperfro7 bperto9 bperday10 blegn11 bleg12 i243 s370 x379 x390 p14 c363 x364 x365 x366 x367 x368 r369 r375 x377 r386 x388 x381 x382 x383 x384 x385 x392 x393 x394 x395 x396 b398 l399 =
 optO (C lb n F_r07_broken [.list blegn11 bleg12, .int .i64 i243]) fun r400 =>
 optO (CV.asB r400) fun b401 =>
 bif b401 then
 (chkO (room (l399.length + 1) 24) (
 r07_Check_J4 lb n k362 aairn1 aair2 adisn3 adis4 bcar5 bnum6 bperfro7 bperto9 bperday10 blegn11 bleg12 i243 s370 x379 x390 p14 c363 x364 x365 x366 x367 x368 r369 r375 x377 r386 x388 x381 x382 x383 x384 x385 x392 x393 x394 x395 x396 (b398 && false) (l399 ++ [[CV.int .i64 15, CV.str (([108, 101, 103, 32] : List UInt8) ++ s370)]])))
 else
 (r07_Check_J4 lb n k362 aairn1 aair2 adisn3 adis4 bcar5 bnum6 bperfro7 bperto9 bperday10 blegn11 bleg12 i243 s370 x379 x390 p14 c363 x364 x365 x366 x367 x368 r369 r375 x377 r386 x388 x381 x382 x383 x384 x385 x392 x393 x394 x395 x396 b398 l399) := (hold_eq _).trans (by kernel_rfl)

theorem r07_Check_J2_eq (lb : Bool) (n : Nat) (k362 : Nat) (aairn1 : Bool) (aair2 : List (List CV)) (adisn3 : Bool) (adis4 : List (List CV)) (bcar5 : List UInt8) (bnum6 : Int) (bperfro7 : Int) (bperto9 : Int) (bperday10 : Int) (blegn11 : Bool) (bleg12 : List (List CV)) (i243 : Int) (s370 : List UInt8) (p14 : Bool × List (List CV)) (c363 : List CV) (x364 : CV) (x365 : CV) (x366 : CV) (x367 : CV) (x368 : CV) (r369 : CV) (b373 : Bool) (l374 : List (List CV)) :
  r07_Check_J2 lb n k362 aairn1 aair2 adisn3 adis4 bcar5 bnum6 bperfro7 bperto9 bperday10 blegn11 bleg12 i243 s370 p14 c363 x364 x365 x366 x367 x368 r369 b373 l374 =
 optO (C lb n F_r06_Find [.agg [.list aairn1 aair2, .list adisn3 adis4], x364]) fun r375 =>
 optO (CV.asT r375) fun t376 =>
 optO (t376[0]?) fun x377 =>
 optO (CV.asT r375) fun t378 =>
 optO (t378[1]?) fun x379 =>
 optO (CV.asA x377) fun c380 =>
 chkO (c380.length == 5) (
 optO (c380[0]?) fun x381 =>
 optO (c380[1]?) fun x382 =>
 optO (c380[2]?) fun x383 =>
 optO (c380[3]?) fun x384 =>
 optO (c380[4]?) fun x385 =>
 optO (C lb n F_r06_Find [.agg [.list aairn1 aair2, .list adisn3 adis4], x365]) fun r386 =>
 optO (CV.asT r386) fun t387 =>
 optO (t387[0]?) fun x388 =>
 optO (CV.asT r386) fun t389 =>
 optO (t389[1]?) fun x390 =>
 optO (CV.asA x388) fun c391 =>
 chkO (c391.length == 5) (
 optO (c391[0]?) fun x392 =>
 optO (c391[1]?) fun x393 =>
 optO (c391[2]?) fun x394 =>
 optO (c391[3]?) fun x395 =>
 optO (c391[4]?) fun x396 =>
 optO (CV.asB x379) fun b397 =>
 bif (!b397) then
 (chkO (room (l374.length + 1) 24) (
 r07_Check_J3 lb n k362 aairn1 aair2 adisn3 adis4 bcar5 bnum6 bperfro7 bperto9 bperday10 blegn11 bleg12 i243 s370 x379 x390 p14 c363 x364 x365 x366 x367 x368 r369 r375 x377 r386 x388 x381 x382 x383 x384 x385 x392 x393 x394 x395 x396 (b373 && false) (l374 ++ [[CV.int .i64 14, CV.str (([108, 101, 103, 32] : List UInt8) ++ s370)]])))
 else
 (optO (CV.asB x390) fun b408 =>
 bif (!b408) then
 (chkO (room (l374.length + 1) 24) (
 r07_Check_J3 lb n k362 aairn1 aair2 adisn3 adis4 bcar5 bnum6 bperfro7 bperto9 bperday10 blegn11 bleg12 i243 s370 x379 x390 p14 c363 x364 x365 x366 x367 x368 r369 r375 x377 r386 x388 x381 x382 x383 x384 x385 x392 x393 x394 x395 x396 (b373 && false) (l374 ++ [[CV.int .i64 14, CV.str (([108, 101, 103, 32] : List UInt8) ++ s370)]])))
 else
 (r07_Check_J3 lb n k362 aairn1 aair2 adisn3 adis4 bcar5 bnum6 bperfro7 bperto9 bperday10 blegn11 bleg12 i243 s370 x379 x390 p14 c363 x364 x365 x366 x367 x368 r369 r375 x377 r386 x388 x381 x382 x383 x384 x385 x392 x393 x394 x395 x396 b373 l374)))) := (hold_eq _).trans (by kernel_rfl)

noncomputable def r07_Check_J5 (lb : Bool) (n : Nat) (aairn1 : Bool) (aair2 : List (List CV)) (adisn3 : Bool) (adis4 : List (List CV)) (bcar5 : List UInt8) (bnum6 : Int) (bperfro7 : Int) (bperto9 : Int) (bperday10 : Int) (blegn11 : Bool) (bleg12 : List (List CV)) (p14 : Bool × List (List CV)) (b409 : Bool) (l410 : List (List CV)) (i411 : Int) : Option CV :=
  hold (E0 lb n 0 996 (sub (B F_r07_Check) [1, 1, 1, 1]) (retK Tryz.prog (R F_r07_Check) 0 (outK (tightF Tryz.prog F_r07_Check))) ⟨fr 133 [(0, .val (.agg [.list aairn1 aair2, .list adisn3 adis4])), (1, .val (.agg [.str bcar5, .int .i64 bnum6, .int .i64 bperfro7, .int .i64 bperto9, .int .i64 bperday10, .list blegn11 bleg12])), (2, .ptr 0 2 0), (3, .ptr 0 3 0), (4, .lst true true 68 []), (5, .lst true b409 68 l410), (6, .val (.int .i64 i411)), (15, .val (.agg [.str bcar5, .int .i64 bnum6, .int .i64 bperfro7, .int .i64 bperto9, .int .i64 bperday10, .list blegn11 bleg12])), (16, .val (.list p14.1 p14.2))], [bx 133 [(2, some [.val (.list aairn1 aair2), .val (.list adisn3 adis4)]), (3, some [.val (.str bcar5), .val (.int .i64 bnum6), .val (.int .i64 bperfro7), .val (.int .i64 bperto9), .val (.int .i64 bperday10), .val (.list blegn11 bleg12)])]], KK⟩)

noncomputable def r07_Check_L6 (lb : Bool) (n : Nat) (k443 : Nat) (aairn1 : Bool) (aair2 : List (List CV)) (adisn3 : Bool) (adis4 : List (List CV)) (bcar5 : List UInt8) (bnum6 : Int) (bperfro7 : Int) (bperto9 : Int) (bperday10 : Int) (blegn11 : Bool) (bleg12 : List (List CV)) (i411 : Int) (r412 : CV) (p14 : Bool × List (List CV)) (b428 : Bool) (l429 : List (List CV)) (i430 : Int) : Option CV :=
  hold (loopC (E0 lb n 0 991) 0 (loopTemps (sub (B F_r07_Check) [1, 1, 1, 1, 1, 0, 1, 0, 0]) ++ []) [] (sub (B F_r07_Check) [1, 1, 1, 1, 1, 0, 1, 0, 0]) (blockK 2 (seqK (E0 lb n 0 994) (sub (B F_r07_Check) [1, 1, 1, 1, 1, 0]) (sub (B F_r07_Check) [1, 1, 1, 1, 1, 1]) (retK Tryz.prog (R F_r07_Check) 0 (outK (tightF Tryz.prog F_r07_Check))))) k443 ⟨fr 133 [(0, .val (.agg [.list aairn1 aair2, .list adisn3 adis4])), (1, .val (.agg [.str bcar5, .int .i64 bnum6, .int .i64 bperfro7, .int .i64 bperto9, .int .i64 bperday10, .list blegn11 bleg12])), (2, .ptr 0 2 0), (3, .ptr 0 3 0), (4, .lst true true 68 []), (5, .lst true b428 68 l429), (6, .val (.int .i64 i411)), (13, .val r412), (14, .val (.int .i64 i430)), (15, .val (.agg [.str bcar5, .int .i64 bnum6, .int .i64 bperfro7, .int .i64 bperto9, .int .i64 bperday10, .list blegn11 bleg12])), (16, .val (.list p14.1 p14.2)), (99, .ptr 0 3 2), (100, .val (.agg [.int .i64 bperfro7, .int .i64 bperto9, .int .i64 bperday10])), (101, .val r412)], [bx 133 [(2, some [.val (.list aairn1 aair2), .val (.list adisn3 adis4)]), (3, some [.val (.str bcar5), .val (.int .i64 bnum6), .val (.int .i64 bperfro7), .val (.int .i64 bperto9), .val (.int .i64 bperday10), .val (.list blegn11 bleg12)])]], KK⟩)

noncomputable def r07_Check_J7 (lb : Bool) (n : Nat) (aairn1 : Bool) (aair2 : List (List CV)) (adisn3 : Bool) (adis4 : List (List CV)) (bcar5 : List UInt8) (bnum6 : Int) (bperfro7 : Int) (bperto9 : Int) (bperday10 : Int) (blegn11 : Bool) (bleg12 : List (List CV)) (i411 : Int) (r412 : CV) (p14 : Bool × List (List CV)) (b456 : Bool) (l457 : List (List CV)) (i458 : Int) : Option CV :=
  hold (E0 lb n 0 994 (sub (B F_r07_Check) [1, 1, 1, 1, 1, 1]) (retK Tryz.prog (R F_r07_Check) 0 (outK (tightF Tryz.prog F_r07_Check))) ⟨fr 133 [(0, .val (.agg [.list aairn1 aair2, .list adisn3 adis4])), (1, .val (.agg [.str bcar5, .int .i64 bnum6, .int .i64 bperfro7, .int .i64 bperto9, .int .i64 bperday10, .list blegn11 bleg12])), (2, .ptr 0 2 0), (3, .ptr 0 3 0), (4, .lst true true 68 []), (5, .lst true b456 68 l457), (6, .val (.int .i64 i411)), (13, .val r412), (14, .val (.int .i64 i458)), (15, .val (.agg [.str bcar5, .int .i64 bnum6, .int .i64 bperfro7, .int .i64 bperto9, .int .i64 bperday10, .list blegn11 bleg12])), (16, .val (.list p14.1 p14.2)), (99, .ptr 0 3 2), (100, .val (.agg [.int .i64 bperfro7, .int .i64 bperto9, .int .i64 bperday10])), (101, .val r412)], [bx 133 [(2, some [.val (.list aairn1 aair2), .val (.list adisn3 adis4)]), (3, some [.val (.str bcar5), .val (.int .i64 bnum6), .val (.int .i64 bperfro7), .val (.int .i64 bperto9), .val (.int .i64 bperday10), .val (.list blegn11 bleg12)])]], KK⟩)

theorem r07_Check_J7_eq (lb : Bool) (n : Nat) (aairn1 : Bool) (aair2 : List (List CV)) (adisn3 : Bool) (adis4 : List (List CV)) (bcar5 : List UInt8) (bnum6 : Int) (bperfro7 : Int) (bperto9 : Int) (bperday10 : Int) (blegn11 : Bool) (bleg12 : List (List CV)) (i411 : Int) (r412 : CV) (p14 : Bool × List (List CV)) (b456 : Bool) (l457 : List (List CV)) (i458 : Int) :
  r07_Check_J7 lb n aairn1 aair2 adisn3 adis4 bcar5 bnum6 bperfro7 bperto9 bperday10 blegn11 bleg12 i411 r412 p14 b456 l457 i458 =
 some (.list b456 l457) := (hold_eq _).trans (by kernel_rfl)

theorem r07_Check_L6_succ (lb : Bool) (n k443 : Nat) (aairn1 : Bool) (aair2 : List (List CV)) (adisn3 : Bool) (adis4 : List (List CV)) (bcar5 : List UInt8) (bnum6 : Int) (bperfro7 : Int) (bperto9 : Int) (bperday10 : Int) (blegn11 : Bool) (bleg12 : List (List CV)) (i411 : Int) (r412 : CV) (p14 : Bool × List (List CV)) (b428 : Bool) (l429 : List (List CV)) (i430 : Int) :
  r07_Check_L6 lb n (k443 + 1) aairn1 aair2 adisn3 adis4 bcar5 bnum6 bperfro7 bperto9 bperday10 blegn11 bleg12 i411 r412 p14 b428 l429 i430 =
 bif ((l429.length : Int) == 0) then
 (optO (CV.asL r412) fun p444 =>
 bif (decide (i430 < (p444.2.length : Int))) then
 (optO (CV.asL r412) fun p445 =>
 optO (atL p445.2 i430) fun c446 =>
 chkO (c446.length == 1) (
 optO (c446[0]?) fun x447 =>
 optO (C lb n F_r07_legs [.agg [.list aairn1 aair2, .list adisn3 adis4], .agg [.str bcar5, .int .i64 bnum6, .int .i64 bperfro7, .int .i64 bperto9, .int .i64 bperday10, .list blegn11 bleg12], x447]) fun r448 =>
 optO (C lb n F_r07_ordered [r448]) fun r449 =>
 optO (CV.asB r449) fun b450 =>
 bif (!b450) then
 (optO (CV.asL r412) fun p451 =>
 optO (atL p451.2 i430) fun c452 =>
 chkO (c452.length == 1) (
 optO (c452[0]?) fun x453 =>
 optO (C lb n F_r03_Print [x453]) fun r454 =>
 optO (CV.asS r454) fun s455 =>
 chkO (decide (([100, 97, 121, 32] : List UInt8).length + s455.length ≤ 9223372036854775807)) (
 chkO (room (l429.length + 1) 24) (
 r07_Check_L6 lb n k443 aairn1 aair2 adisn3 adis4 bcar5 bnum6 bperfro7 bperto9 bperday10 blegn11 bleg12 i411 r412 p14 (b428 && false) (l429 ++ [[CV.int .i64 13, CV.str (([100, 97, 121, 32] : List UInt8) ++ s455)]]) (IntKind.wrap .i64 (i430 + 1))))))
 else
 (r07_Check_L6 lb n k443 aairn1 aair2 adisn3 adis4 bcar5 bnum6 bperfro7 bperto9 bperday10 blegn11 bleg12 i411 r412 p14 b428 l429 (IntKind.wrap .i64 (i430 + 1)))))
 else
 (r07_Check_J7 lb n aairn1 aair2 adisn3 adis4 bcar5 bnum6 bperfro7 bperto9 bperday10 blegn11 bleg12 i411 r412 p14 b428 l429 i430))
 else
 (r07_Check_J7 lb n aairn1 aair2 adisn3 adis4 bcar5 bnum6 bperfro7 bperto9 bperday10 blegn11 bleg12 i411 r412 p14 b428 l429 i430) := (hold_eq _).trans (by kernel_rfl)

theorem r07_Check_L6_zero (lb : Bool) (n : Nat) (aairn1 : Bool) (aair2 : List (List CV)) (adisn3 : Bool) (adis4 : List (List CV)) (bcar5 : List UInt8) (bnum6 : Int) (bperfro7 : Int) (bperto9 : Int) (bperday10 : Int) (blegn11 : Bool) (bleg12 : List (List CV)) (i411 : Int) (r412 : CV) (p14 : Bool × List (List CV)) (b428 : Bool) (l429 : List (List CV)) (i430 : Int) :
  r07_Check_L6 lb n 0 aairn1 aair2 adisn3 adis4 bcar5 bnum6 bperfro7 bperto9 bperday10 blegn11 bleg12 i411 r412 p14 b428 l429 i430 =
 none := (hold_eq _).trans (by kernel_rfl)

theorem r07_Check_J5_eq (lb : Bool) (n : Nat) (aairn1 : Bool) (aair2 : List (List CV)) (adisn3 : Bool) (adis4 : List (List CV)) (bcar5 : List UInt8) (bnum6 : Int) (bperfro7 : Int) (bperto9 : Int) (bperday10 : Int) (blegn11 : Bool) (bleg12 : List (List CV)) (p14 : Bool × List (List CV)) (b409 : Bool) (l410 : List (List CV)) (i411 : Int) :
  r07_Check_J5 lb n aairn1 aair2 adisn3 adis4 bcar5 bnum6 bperfro7 bperto9 bperday10 blegn11 bleg12 p14 b409 l410 i411 =
 optO (C lb n F_r04_Days [.agg [.int .i64 bperfro7, .int .i64 bperto9, .int .i64 bperday10]]) fun r412 =>
 r07_Check_L6 lb n n aairn1 aair2 adisn3 adis4 bcar5 bnum6 bperfro7 bperto9 bperday10 blegn11 bleg12 i411 r412 p14 b409 l410 0 := (hold_eq _).trans (by kernel_rfl)

theorem r07_Check_L1_succ (lb : Bool) (n k362 : Nat) (aairn1 : Bool) (aair2 : List (List CV)) (adisn3 : Bool) (adis4 : List (List CV)) (bcar5 : List UInt8) (bnum6 : Int) (bperfro7 : Int) (bperto9 : Int) (bperday10 : Int) (blegn11 : Bool) (bleg12 : List (List CV)) (p14 : Bool × List (List CV)) (b241 : Bool) (l242 : List (List CV)) (i243 : Int) :
  r07_Check_L1 lb n (k362 + 1) aairn1 aair2 adisn3 adis4 bcar5 bnum6 bperfro7 bperto9 bperday10 blegn11 bleg12 p14 b241 l242 i243 =
 bif (decide (i243 < (bleg12.length : Int))) then
 (optO (atL bleg12 i243) fun c363 =>
 chkO (c363.length == 5) (
 optO (c363[0]?) fun x364 =>
 optO (c363[1]?) fun x365 =>
 optO (c363[2]?) fun x366 =>
 optO (c363[3]?) fun x367 =>
 optO (c363[4]?) fun x368 =>
 optO (C lb n F_r01_Decimal [.int .i64 i243]) fun r369 =>
 optO (CV.asS r369) fun s370 =>
 chkO (decide (([108, 101, 103, 32] : List UInt8).length + s370.length ≤ 9223372036854775807)) (
 optO (C lb n F_r01_Code [x368, .int .i64 3, .int .i64 3]) fun r371 =>
 optO (CV.asB r371) fun b372 =>
 bif (!b372) then
 (chkO (room (l242.length + 1) 24) (
 r07_Check_J2 lb n k362 aairn1 aair2 adisn3 adis4 bcar5 bnum6 bperfro7 bperto9 bperday10 blegn11 bleg12 i243 s370 p14 c363 x364 x365 x366 x367 x368 r369 (b241 && false) (l242 ++ [[CV.int .i64 5, CV.str (([108, 101, 103, 32] : List UInt8) ++ s370)]])))
 else
 (r07_Check_J2 lb n k362 aairn1 aair2 adisn3 adis4 bcar5 bnum6 bperfro7 bperto9 bperday10 blegn11 bleg12 i243 s370 p14 c363 x364 x365 x366 x367 x368 r369 b241 l242))))
 else
 (r07_Check_J5 lb n aairn1 aair2 adisn3 adis4 bcar5 bnum6 bperfro7 bperto9 bperday10 blegn11 bleg12 p14 b241 l242 i243) := (hold_eq _).trans (by kernel_rfl)

theorem r07_Check_L1_zero (lb : Bool) (n : Nat) (aairn1 : Bool) (aair2 : List (List CV)) (adisn3 : Bool) (adis4 : List (List CV)) (bcar5 : List UInt8) (bnum6 : Int) (bperfro7 : Int) (bperto9 : Int) (bperday10 : Int) (blegn11 : Bool) (bleg12 : List (List CV)) (p14 : Bool × List (List CV)) (b241 : Bool) (l242 : List (List CV)) (i243 : Int) :
  r07_Check_L1 lb n 0 aairn1 aair2 adisn3 adis4 bcar5 bnum6 bperfro7 bperto9 bperday10 blegn11 bleg12 p14 b241 l242 i243 =
 none := (hold_eq _).trans (by kernel_rfl)

theorem r07_Check_eq (lb : Bool) (n : Nat) (aairn1 : Bool) (aair2 : List (List CV)) (adisn3 : Bool) (adis4 : List (List CV)) (bcar5 : List UInt8) (bnum6 : Int) (bperfro7 : Int) (bperto9 : Int) (bperday10 : Int) (blegn11 : Bool) (bleg12 : List (List CV)) :
  top lb n F_r07_Check [.agg [.list aairn1 aair2, .list adisn3 adis4], .agg [.str bcar5, .int .i64 bnum6, .int .i64 bperfro7, .int .i64 bperto9, .int .i64 bperday10, .list blegn11 bleg12]] =
 optO (C lb n F_r07_head [.agg [.str bcar5, .int .i64 bnum6, .int .i64 bperfro7, .int .i64 bperto9, .int .i64 bperday10, .list blegn11 bleg12]]) fun r13 =>
 optO (CV.asL r13) fun p14 =>
 bif (decide ((bleg12.length : Int) < 1)) then
 (some (.list p14.1 p14.2))
 else
 (bif (decide ((bleg12.length : Int) > 6)) then
 (some (.list p14.1 p14.2))
 else
 (r07_Check_L1 lb n n aairn1 aair2 adisn3 adis4 bcar5 bnum6 bperfro7 bperto9 bperday10 blegn11 bleg12 p14 p14.1 p14.2 0)) := by kernel_rfl

/-! airline/flight.Check -/
noncomputable def flight_Check_J1 (lb : Bool) (n : Nat) (aairn1 : Bool) (aair2 : List (List CV)) (adisn3 : Bool) (adis4 : List (List CV)) (bcar5 : List UInt8) (bnum6 : Int) (bperfro7 : Int) (bperto9 : Int) (bperday10 : Int) (blegn11 : Bool) (bleg12 : List (List CV)) (b15 : Bool) (l17 : List (List CV)) : Option CV :=
  hold (E0 lb n 0 996 (sub (B F_flight_Check) [1, 1, 1, 1]) (retK Tryz.prog (R F_flight_Check) 0 (outK (tightF Tryz.prog F_flight_Check))) ⟨fr 100 [(0, .val (.agg [.list aairn1 aair2, .list adisn3 adis4])), (1, .val (.agg [.str bcar5, .int .i64 bnum6, .int .i64 bperfro7, .int .i64 bperto9, .int .i64 bperday10, .list blegn11 bleg12])), (2, .ptr 0 2 0), (3, .ptr 0 3 0), (4, .lst true true 68 []), (5, .ptr 0 5 0), (6, .clo F_flight_Check_1 [.ptr 0 5 0]), (13, .clo F_flight_Check_1 [.ptr 0 5 0])], [bx 100 [(2, some [.val (.list aairn1 aair2), .val (.list adisn3 adis4)]), (3, some [.val (.str bcar5), .val (.int .i64 bnum6), .val (.int .i64 bperfro7), .val (.int .i64 bperto9), .val (.int .i64 bperday10), .val (.list blegn11 bleg12)]), (5, some [.lst true b15 68 l17])]], KK⟩)

noncomputable def flight_Check_J2 (lb : Bool) (n : Nat) (aairn1 : Bool) (aair2 : List (List CV)) (adisn3 : Bool) (adis4 : List (List CV)) (bcar5 : List UInt8) (bnum6 : Int) (bperfro7 : Int) (bperto9 : Int) (bperday10 : Int) (blegn11 : Bool) (bleg12 : List (List CV)) (b18 : Bool) (l19 : List (List CV)) : Option CV :=
  hold (E0 lb n 0 995 (sub (B F_flight_Check) [1, 1, 1, 1, 1]) (retK Tryz.prog (R F_flight_Check) 0 (outK (tightF Tryz.prog F_flight_Check))) ⟨fr 100 [(0, .val (.agg [.list aairn1 aair2, .list adisn3 adis4])), (1, .val (.agg [.str bcar5, .int .i64 bnum6, .int .i64 bperfro7, .int .i64 bperto9, .int .i64 bperday10, .list blegn11 bleg12])), (2, .ptr 0 2 0), (3, .ptr 0 3 0), (4, .lst true true 68 []), (5, .ptr 0 5 0), (6, .clo F_flight_Check_1 [.ptr 0 5 0]), (13, .clo F_flight_Check_1 [.ptr 0 5 0])], [bx 100 [(2, some [.val (.list aairn1 aair2), .val (.list adisn3 adis4)]), (3, some [.val (.str bcar5), .val (.int .i64 bnum6), .val (.int .i64 bperfro7), .val (.int .i64 bperto9), .val (.int .i64 bperday10), .val (.list blegn11 bleg12)]), (5, some [.lst true b18 68 l19])]], KK⟩)

noncomputable def flight_Check_J3 (lb : Bool) (n : Nat) (aairn1 : Bool) (aair2 : List (List CV)) (adisn3 : Bool) (adis4 : List (List CV)) (bcar5 : List UInt8) (bnum6 : Int) (bperfro7 : Int) (bperto9 : Int) (bperday10 : Int) (blegn11 : Bool) (bleg12 : List (List CV)) (v22 : CV) (b23 : Bool) (l24 : List (List CV)) : Option CV :=
  hold (E0 lb n 0 994 (sub (B F_flight_Check) [1, 1, 1, 1, 1, 1]) (retK Tryz.prog (R F_flight_Check) 0 (outK (tightF Tryz.prog F_flight_Check))) ⟨fr 100 [(0, .val (.agg [.list aairn1 aair2, .list adisn3 adis4])), (1, .val (.agg [.str bcar5, .int .i64 bnum6, .int .i64 bperfro7, .int .i64 bperto9, .int .i64 bperday10, .list blegn11 bleg12])), (2, .ptr 0 2 0), (3, .ptr 0 3 0), (4, .lst true true 68 []), (5, .ptr 0 5 0), (6, .clo F_flight_Check_1 [.ptr 0 5 0]), (7, .val v22), (13, .clo F_flight_Check_1 [.ptr 0 5 0])], [bx 100 [(2, some [.val (.list aairn1 aair2), .val (.list adisn3 adis4)]), (3, some [.val (.str bcar5), .val (.int .i64 bnum6), .val (.int .i64 bperfro7), .val (.int .i64 bperto9), .val (.int .i64 bperday10), .val (.list blegn11 bleg12)]), (5, some [.lst true b23 68 l24])]], KK⟩)

noncomputable def flight_Check_L4 (lb : Bool) (n : Nat) (k70 : Nat) (aairn1 : Bool) (aair2 : List (List CV)) (adisn3 : Bool) (adis4 : List (List CV)) (bcar5 : List UInt8) (bnum6 : Int) (bperfro7 : Int) (bperto9 : Int) (bperday10 : Int) (blegn11 : Bool) (bleg12 : List (List CV)) (v22 : CV) (i46 : Int) (b47 : Bool) (l48 : List (List CV)) : Option CV :=
  hold (loopC (E0 lb n 0 989) 0 (loopTemps (sub (B F_flight_Check) [1, 1, 1, 1, 1, 1, 1, 0, 1, 0, 0]) ++ [8, 10]) [] (sub (B F_flight_Check) [1, 1, 1, 1, 1, 1, 1, 0, 1, 0, 0]) (blockK 0 (seqK (E0 lb n 0 992) (sub (B F_flight_Check) [1, 1, 1, 1, 1, 1, 1, 0]) (sub (B F_flight_Check) [1, 1, 1, 1, 1, 1, 1, 1]) (retK Tryz.prog (R F_flight_Check) 0 (outK (tightF Tryz.prog F_flight_Check))))) k70 ⟨fr 100 [(0, .val (.agg [.list aairn1 aair2, .list adisn3 adis4])), (1, .val (.agg [.str bcar5, .int .i64 bnum6, .int .i64 bperfro7, .int .i64 bperto9, .int .i64 bperday10, .list blegn11 bleg12])), (2, .ptr 0 2 0), (3, .ptr 0 3 0), (4, .lst true true 68 []), (5, .ptr 0 5 0), (6, .clo F_flight_Check_1 [.ptr 0 5 0]), (7, .val v22), (13, .clo F_flight_Check_1 [.ptr 0 5 0]), (51, .ptr 0 3 5), (52, .val (.list blegn11 bleg12)), (53, .val (.int .i64 (bleg12.length : Int))), (54, .val (.int .i64 i46))], [bx 100 [(2, some [.val (.list aairn1 aair2), .val (.list adisn3 adis4)]), (3, some [.val (.str bcar5), .val (.int .i64 bnum6), .val (.int .i64 bperfro7), .val (.int .i64 bperto9), .val (.int .i64 bperday10), .val (.list blegn11 bleg12)]), (5, some [.lst true b47 68 l48])]], KK⟩)

noncomputable def flight_Check_L5 (lb : Bool) (n : Nat) (k86 : Nat) (k70 : Nat) (aairn1 : Bool) (aair2 : List (List CV)) (adisn3 : Bool) (adis4 : List (List CV)) (bcar5 : List UInt8) (bnum6 : Int) (bperfro7 : Int) (bperto9 : Int) (bperday10 : Int) (blegn11 : Bool) (bleg12 : List (List CV)) (v22 : CV) (i46 : Int) (r71 : CV) (p72 : Bool × List (List CV)) (i78 : Int) (b79 : Bool) (l80 : List (List CV)) : Option CV :=
  hold (loopC (E0 lb n 0 981) 0 (loopTemps (sub (B F_flight_Check) [1, 1, 1, 1, 1, 1, 1, 0, 1, 0, 0, 1, 1, 0, 0, 1, 1, 0, 0]) ++ [10]) [] (sub (B F_flight_Check) [1, 1, 1, 1, 1, 1, 1, 0, 1, 0, 0, 1, 1, 0, 0, 1, 1, 0, 0]) (blockK 2 (blockK 1 (seqK (E0 lb n 0 986) (sub (B F_flight_Check) [1, 1, 1, 1, 1, 1, 1, 0, 1, 0, 0, 1, 1, 0]) (sub (B F_flight_Check) [1, 1, 1, 1, 1, 1, 1, 0, 1, 0, 0, 1, 1, 1]) (loopK 0 (loopTemps (sub (B F_flight_Check) [1, 1, 1, 1, 1, 1, 1, 0, 1, 0, 0]) ++ [8, 10]) [] (loopC (E0 lb n 0 989) 0 (loopTemps (sub (B F_flight_Check) [1, 1, 1, 1, 1, 1, 1, 0, 1, 0, 0]) ++ [8, 10]) [] (sub (B F_flight_Check) [1, 1, 1, 1, 1, 1, 1, 0, 1, 0, 0]) (blockK 0 (seqK (E0 lb n 0 992) (sub (B F_flight_Check) [1, 1, 1, 1, 1, 1, 1, 0]) (sub (B F_flight_Check) [1, 1, 1, 1, 1, 1, 1, 1]) (retK Tryz.prog (R F_flight_Check) 0 (outK (tightF Tryz.prog F_flight_Check))))) k70) (blockK 0 (seqK (E0 lb n 0 992) (sub (B F_flight_Check) [1, 1, 1, 1, 1, 1, 1, 0]) (sub (B F_flight_Check) [1, 1, 1, 1, 1, 1, 1, 1]) (retK Tryz.prog (R F_flight_Check) 0 (outK (tightF Tryz.prog F_flight_Check))))))))) k86 ⟨fr 100 [(0, .val (.agg [.list aairn1 aair2, .list adisn3 adis4])), (1, .val (.agg [.str bcar5, .int .i64 bnum6, .int .i64 bperfro7, .int .i64 bperto9, .int .i64 bperday10, .list blegn11 bleg12])), (2, .ptr 0 2 0), (3, .ptr 0 3 0), (4, .lst true true 68 []), (5, .ptr 0 5 0), (6, .clo F_flight_Check_1 [.ptr 0 5 0]), (7, .val v22), (8, .val (.int .i64 i46)), (13, .clo F_flight_Check_1 [.ptr 0 5 0]), (51, .ptr 0 3 5), (52, .val (.list blegn11 bleg12)), (53, .val (.int .i64 (bleg12.length : Int))), (54, .val (.int .i64 i46)), (55, .val (.bool (decide (i46 < (bleg12.length : Int))))), (56, .val (.int .i64 i46)), (57, .val (.agg [.list aairn1 aair2, .list adisn3 adis4])), (58, .ptr 0 3 5), (59, .val (.list blegn11 bleg12)), (60, .val (.int .i64 i46)), (61, .val r71), (62, .val (.int .i64 (p72.2.length : Int))), (63, .val (.int .i64 i78))], [bx 100 [(2, some [.val (.list aairn1 aair2), .val (.list adisn3 adis4)]), (3, some [.val (.str bcar5), .val (.int .i64 bnum6), .val (.int .i64 bperfro7), .val (.int .i64 bperto9), .val (.int .i64 bperday10), .val (.list blegn11 bleg12)]), (5, some [.lst true b79 68 l80])]], KK⟩)

noncomputable def flight_Check_J6 (lb : Bool) (n : Nat) (k70 : Nat) (aairn1 : Bool) (aair2 : List (List CV)) (adisn3 : Bool) (adis4 : List (List CV)) (bcar5 : List UInt8) (bnum6 : Int) (bperfro7 : Int) (bperto9 : Int) (bperday10 : Int) (blegn11 : Bool) (bleg12 : List (List CV)) (v22 : CV) (i46 : Int) (i92 : Int) (b93 : Bool) (l94 : List (List CV)) : Option CV :=
  hold (E0 lb n 0 986 (sub (B F_flight_Check) [1, 1, 1, 1, 1, 1, 1, 0, 1, 0, 0, 1, 1, 1]) (loopK 0 (loopTemps (sub (B F_flight_Check) [1, 1, 1, 1, 1, 1, 1, 0, 1, 0, 0]) ++ [8, 10]) [] (loopC (E0 lb n 0 989) 0 (loopTemps (sub (B F_flight_Check) [1, 1, 1, 1, 1, 1, 1, 0, 1, 0, 0]) ++ [8, 10]) [] (sub (B F_flight_Check) [1, 1, 1, 1, 1, 1, 1, 0, 1, 0, 0]) (blockK 0 (seqK (E0 lb n 0 992) (sub (B F_flight_Check) [1, 1, 1, 1, 1, 1, 1, 0]) (sub (B F_flight_Check) [1, 1, 1, 1, 1, 1, 1, 1]) (retK Tryz.prog (R F_flight_Check) 0 (outK (tightF Tryz.prog F_flight_Check))))) k70) (blockK 0 (seqK (E0 lb n 0 992) (sub (B F_flight_Check) [1, 1, 1, 1, 1, 1, 1, 0]) (sub (B F_flight_Check) [1, 1, 1, 1, 1, 1, 1, 1]) (retK Tryz.prog (R F_flight_Check) 0 (outK (tightF Tryz.prog F_flight_Check)))))) ⟨fr 100 [(0, .val (.agg [.list aairn1 aair2, .list adisn3 adis4])), (1, .val (.agg [.str bcar5, .int .i64 bnum6, .int .i64 bperfro7, .int .i64 bperto9, .int .i64 bperday10, .list blegn11 bleg12])), (2, .ptr 0 2 0), (3, .ptr 0 3 0), (4, .lst true true 68 []), (5, .ptr 0 5 0), (6, .clo F_flight_Check_1 [.ptr 0 5 0]), (7, .val v22), (8, .val (.int .i64 i92)), (13, .clo F_flight_Check_1 [.ptr 0 5 0]), (51, .ptr 0 3 5), (52, .val (.list blegn11 bleg12)), (53, .val (.int .i64 (bleg12.length : Int))), (54, .val (.int .i64 i46)), (55, .val (.bool (decide (i46 < (bleg12.length : Int)))))], [bx 100 [(2, some [.val (.list aairn1 aair2), .val (.list adisn3 adis4)]), (3, some [.val (.str bcar5), .val (.int .i64 bnum6), .val (.int .i64 bperfro7), .val (.int .i64 bperto9), .val (.int .i64 bperday10), .val (.list blegn11 bleg12)]), (5, some [.lst true b93 68 l94])]], KK⟩)

theorem flight_Check_J6_eq (lb : Bool) (n : Nat) (k70 : Nat) (aairn1 : Bool) (aair2 : List (List CV)) (adisn3 : Bool) (adis4 : List (List CV)) (bcar5 : List UInt8) (bnum6 : Int) (bperfro7 : Int) (bperto9 : Int) (bperday10 : Int) (blegn11 : Bool) (bleg12 : List (List CV)) (v22 : CV) (i46 : Int) (i92 : Int) (b93 : Bool) (l94 : List (List CV)) :
  flight_Check_J6 lb n k70 aairn1 aair2 adisn3 adis4 bcar5 bnum6 bperfro7 bperto9 bperday10 blegn11 bleg12 v22 i46 i92 b93 l94 =
 flight_Check_L4 lb n k70 aairn1 aair2 adisn3 adis4 bcar5 bnum6 bperfro7 bperto9 bperday10 blegn11 bleg12 v22 (IntKind.wrap .i64 (i46 + 1)) b93 l94 := (hold_eq _).trans (by kernel_rfl)

theorem flight_Check_L5_succ (lb : Bool) (n k86 : Nat) (k70 : Nat) (aairn1 : Bool) (aair2 : List (List CV)) (adisn3 : Bool) (adis4 : List (List CV)) (bcar5 : List UInt8) (bnum6 : Int) (bperfro7 : Int) (bperto9 : Int) (bperday10 : Int) (blegn11 : Bool) (bleg12 : List (List CV)) (v22 : CV) (i46 : Int) (r71 : CV) (p72 : Bool × List (List CV)) (i78 : Int) (b79 : Bool) (l80 : List (List CV)) :
  flight_Check_L5 lb n (k86 + 1) k70 aairn1 aair2 adisn3 adis4 bcar5 bnum6 bperfro7 bperto9 bperday10 blegn11 bleg12 v22 i46 r71 p72 i78 b79 l80 =
 bif (decide (i78 < (p72.2.length : Int))) then
 (optO (CV.asL r71) fun p87 =>
 optO (atL p87.2 i78) fun c88 =>
 chkO (c88.length == 1) (
 optO (c88[0]?) fun x89 =>
 optO (C lb n F_text_Decimal [.int .i64 i46]) fun r90 =>
 optO (CV.asS r90) fun s91 =>
 chkO (decide (([108, 101, 103, 32] : List UInt8).length + s91.length ≤ 9223372036854775807)) (
 chkO (CV.isCell x89) (
 chkO (room (l80.length + 1) 24) (
 flight_Check_L5 lb n k86 k70 aairn1 aair2 adisn3 adis4 bcar5 bnum6 bperfro7 bperto9 bperday10 blegn11 bleg12 v22 i46 r71 p72 (IntKind.wrap .i64 (i78 + 1)) (b79 && false) (l80 ++ [[x89, CV.str (([108, 101, 103, 32] : List UInt8) ++ s91)]]))))))
 else
 (flight_Check_J6 lb n k70 aairn1 aair2 adisn3 adis4 bcar5 bnum6 bperfro7 bperto9 bperday10 blegn11 bleg12 v22 i46 i46 b79 l80) := (hold_eq _).trans (by kernel_rfl)

theorem flight_Check_L5_zero (lb : Bool) (n : Nat) (k70 : Nat) (aairn1 : Bool) (aair2 : List (List CV)) (adisn3 : Bool) (adis4 : List (List CV)) (bcar5 : List UInt8) (bnum6 : Int) (bperfro7 : Int) (bperto9 : Int) (bperday10 : Int) (blegn11 : Bool) (bleg12 : List (List CV)) (v22 : CV) (i46 : Int) (r71 : CV) (p72 : Bool × List (List CV)) (i78 : Int) (b79 : Bool) (l80 : List (List CV)) :
  flight_Check_L5 lb n 0 k70 aairn1 aair2 adisn3 adis4 bcar5 bnum6 bperfro7 bperto9 bperday10 blegn11 bleg12 v22 i46 r71 p72 i78 b79 l80 =
 none := (hold_eq _).trans (by kernel_rfl)

noncomputable def flight_Check_J7 (lb : Bool) (n : Nat) (aairn1 : Bool) (aair2 : List (List CV)) (adisn3 : Bool) (adis4 : List (List CV)) (bcar5 : List UInt8) (bnum6 : Int) (bperfro7 : Int) (bperto9 : Int) (bperday10 : Int) (blegn11 : Bool) (bleg12 : List (List CV)) (v22 : CV) (b95 : Bool) (l96 : List (List CV)) : Option CV :=
  hold (E0 lb n 0 992 (sub (B F_flight_Check) [1, 1, 1, 1, 1, 1, 1, 1]) (retK Tryz.prog (R F_flight_Check) 0 (outK (tightF Tryz.prog F_flight_Check))) ⟨fr 100 [(0, .val (.agg [.list aairn1 aair2, .list adisn3 adis4])), (1, .val (.agg [.str bcar5, .int .i64 bnum6, .int .i64 bperfro7, .int .i64 bperto9, .int .i64 bperday10, .list blegn11 bleg12])), (2, .ptr 0 2 0), (3, .ptr 0 3 0), (4, .lst true true 68 []), (5, .ptr 0 5 0), (6, .clo F_flight_Check_1 [.ptr 0 5 0]), (7, .val v22), (13, .clo F_flight_Check_1 [.ptr 0 5 0])], [bx 100 [(2, some [.val (.list aairn1 aair2), .val (.list adisn3 adis4)]), (3, some [.val (.str bcar5), .val (.int .i64 bnum6), .val (.int .i64 bperfro7), .val (.int .i64 bperto9), .val (.int .i64 bperday10), .val (.list blegn11 bleg12)]), (5, some [.lst true b95 68 l96])]], KK⟩)

noncomputable def flight_Check_L8 (lb : Bool) (n : Nat) (k114 : Nat) (aairn1 : Bool) (aair2 : List (List CV)) (adisn3 : Bool) (adis4 : List (List CV)) (bcar5 : List UInt8) (bnum6 : Int) (bperfro7 : Int) (bperto9 : Int) (bperday10 : Int) (blegn11 : Bool) (bleg12 : List (List CV)) (v22 : CV) (r97 : CV) (p98 : Bool × List (List CV)) (b95 : Bool) (l96 : List (List CV)) (i106 : Int) : Option CV :=
  hold (loopC (E0 lb n 0 987) 0 (loopTemps (sub (B F_flight_Check) [1, 1, 1, 1, 1, 1, 1, 1, 1, 0, 1, 0, 0]) ++ [12]) [] (sub (B F_flight_Check) [1, 1, 1, 1, 1, 1, 1, 1, 1, 0, 1, 0, 0]) (blockK 4 (seqK (E0 lb n 0 990) (sub (B F_flight_Check) [1, 1, 1, 1, 1, 1, 1, 1, 1, 0]) (sub (B F_flight_Check) [1, 1, 1, 1, 1, 1, 1, 1, 1, 1]) (retK Tryz.prog (R F_flight_Check) 0 (outK (tightF Tryz.prog F_flight_Check))))) k114 ⟨fr 100 [(0, .val (.agg [.list aairn1 aair2, .list adisn3 adis4])), (1, .val (.agg [.str bcar5, .int .i64 bnum6, .int .i64 bperfro7, .int .i64 bperto9, .int .i64 bperday10, .list blegn11 bleg12])), (2, .ptr 0 2 0), (3, .ptr 0 3 0), (4, .lst true true 68 []), (5, .ptr 0 5 0), (6, .clo F_flight_Check_1 [.ptr 0 5 0]), (7, .val v22), (13, .clo F_flight_Check_1 [.ptr 0 5 0]), (79, .ptr 0 3 2), (80, .val (.agg [.int .i64 bperfro7, .int .i64 bperto9, .int .i64 bperday10])), (81, .val r97), (82, .val (.int .i64 (p98.2.length : Int))), (83, .val (.int .i64 i106))], [bx 100 [(2, some [.val (.list aairn1 aair2), .val (.list adisn3 adis4)]), (3, some [.val (.str bcar5), .val (.int .i64 bnum6), .val (.int .i64 bperfro7), .val (.int .i64 bperto9), .val (.int .i64 bperday10), .val (.list blegn11 bleg12)]), (5, some [.lst true b95 68 l96])]], KK⟩)

noncomputable def flight_Check_J9 (lb : Bool) (n : Nat) (aairn1 : Bool) (aair2 : List (List CV)) (adisn3 : Bool) (adis4 : List (List CV)) (bcar5 : List UInt8) (bnum6 : Int) (bperfro7 : Int) (bperto9 : Int) (bperday10 : Int) (blegn11 : Bool) (bleg12 : List (List CV)) (v22 : CV) (v122 : CV) (b123 : Bool) (l124 : List (List CV)) : Option CV :=
  hold (E0 lb n 0 990 (sub (B F_flight_Check) [1, 1, 1, 1, 1, 1, 1, 1, 1, 1]) (retK Tryz.prog (R F_flight_Check) 0 (outK (tightF Tryz.prog F_flight_Check))) ⟨fr 100 [(0, .val (.agg [.list aairn1 aair2, .list adisn3 adis4])), (1, .val (.agg [.str bcar5, .int .i64 bnum6, .int .i64 bperfro7, .int .i64 bperto9, .int .i64 bperday10, .list blegn11 bleg12])), (2, .ptr 0 2 0), (3, .ptr 0 3 0), (4, .lst true true 68 []), (5, .ptr 0 5 0), (6, .clo F_flight_Check_1 [.ptr 0 5 0]), (7, .val v22), (12, .val v122), (13, .clo F_flight_Check_1 [.ptr 0 5 0])], [bx 100 [(2, some [.val (.list aairn1 aair2), .val (.list adisn3 adis4)]), (3, some [.val (.str bcar5), .val (.int .i64 bnum6), .val (.int .i64 bperfro7), .val (.int .i64 bperto9), .val (.int .i64 bperday10), .val (.list blegn11 bleg12)]), (5, some [.lst true b123 68 l124])]], KK⟩)

theorem flight_Check_J9_eq (lb : Bool) (n : Nat) (aairn1 : Bool) (aair2 : List (List CV)) (adisn3 : Bool) (adis4 : List (List CV)) (bcar5 : List UInt8) (bnum6 : Int) (bperfro7 : Int) (bperto9 : Int) (bperday10 : Int) (blegn11 : Bool) (bleg12 : List (List CV)) (v22 : CV) (v122 : CV) (b123 : Bool) (l124 : List (List CV)) :
  flight_Check_J9 lb n aairn1 aair2 adisn3 adis4 bcar5 bnum6 bperfro7 bperto9 bperday10 blegn11 bleg12 v22 v122 b123 l124 =
 some (.list b123 l124) := (hold_eq _).trans (by kernel_rfl)

noncomputable def flight_Check_J10 (lb : Bool) (n : Nat) (aairn1 : Bool) (aair2 : List (List CV)) (adisn3 : Bool) (adis4 : List (List CV)) (bcar5 : List UInt8) (bnum6 : Int) (bperfro7 : Int) (bperto9 : Int) (bperday10 : Int) (blegn11 : Bool) (bleg12 : List (List CV)) (v22 : CV) (b95 : Bool) (l96 : List (List CV)) : Option CV :=
  hold (E0 lb n 0 990 (sub (B F_flight_Check) [1, 1, 1, 1, 1, 1, 1, 1, 1, 1]) (retK Tryz.prog (R F_flight_Check) 0 (outK (tightF Tryz.prog F_flight_Check))) ⟨fr 100 [(0, .val (.agg [.list aairn1 aair2, .list adisn3 adis4])), (1, .val (.agg [.str bcar5, .int .i64 bnum6, .int .i64 bperfro7, .int .i64 bperto9, .int .i64 bperday10, .list blegn11 bleg12])), (2, .ptr 0 2 0), (3, .ptr 0 3 0), (4, .lst true true 68 []), (5, .ptr 0 5 0), (6, .clo F_flight_Check_1 [.ptr 0 5 0]), (7, .val v22), (13, .clo F_flight_Check_1 [.ptr 0 5 0])], [bx 100 [(2, some [.val (.list aairn1 aair2), .val (.list adisn3 adis4)]), (3, some [.val (.str bcar5), .val (.int .i64 bnum6), .val (.int .i64 bperfro7), .val (.int .i64 bperto9), .val (.int .i64 bperday10), .val (.list blegn11 bleg12)]), (5, some [.lst true b95 68 l96])]], KK⟩)

theorem flight_Check_J10_eq (lb : Bool) (n : Nat) (aairn1 : Bool) (aair2 : List (List CV)) (adisn3 : Bool) (adis4 : List (List CV)) (bcar5 : List UInt8) (bnum6 : Int) (bperfro7 : Int) (bperto9 : Int) (bperday10 : Int) (blegn11 : Bool) (bleg12 : List (List CV)) (v22 : CV) (b95 : Bool) (l96 : List (List CV)) :
  flight_Check_J10 lb n aairn1 aair2 adisn3 adis4 bcar5 bnum6 bperfro7 bperto9 bperday10 blegn11 bleg12 v22 b95 l96 =
 some (.list b95 l96) := (hold_eq _).trans (by kernel_rfl)

theorem flight_Check_L8_succ (lb : Bool) (n k114 : Nat) (aairn1 : Bool) (aair2 : List (List CV)) (adisn3 : Bool) (adis4 : List (List CV)) (bcar5 : List UInt8) (bnum6 : Int) (bperfro7 : Int) (bperto9 : Int) (bperday10 : Int) (blegn11 : Bool) (bleg12 : List (List CV)) (v22 : CV) (r97 : CV) (p98 : Bool × List (List CV)) (b95 : Bool) (l96 : List (List CV)) (i106 : Int) :
  flight_Check_L8 lb n (k114 + 1) aairn1 aair2 adisn3 adis4 bcar5 bnum6 bperfro7 bperto9 bperday10 blegn11 bleg12 v22 r97 p98 b95 l96 i106 =
 bif (decide (i106 < (p98.2.length : Int))) then
 (optO (CV.asL r97) fun p115 =>
 optO (atL p115.2 i106) fun c116 =>
 chkO (c116.length == 1) (
 optO (c116[0]?) fun x117 =>
 optO (C lb n F_flight_ordered [.agg [.list aairn1 aair2, .list adisn3 adis4], .list blegn11 bleg12, x117]) fun r118 =>
 optO (CV.asB r118) fun b119 =>
 bif (!b119) then
 (optO (C lb n F_calendar_Print [x117]) fun r120 =>
 optO (CV.asS r120) fun s121 =>
 chkO (decide (([100, 97, 121, 32] : List UInt8).length + s121.length ≤ 9223372036854775807)) (
 chkO (room (l96.length + 1) 24) (
 flight_Check_J9 lb n aairn1 aair2 adisn3 adis4 bcar5 bnum6 bperfro7 bperto9 bperday10 blegn11 bleg12 v22 x117 (b95 && false) (l96 ++ [[CV.int .i64 13, CV.str (([100, 97, 121, 32] : List UInt8) ++ s121)]]))))
 else
 (flight_Check_L8 lb n k114 aairn1 aair2 adisn3 adis4 bcar5 bnum6 bperfro7 bperto9 bperday10 blegn11 bleg12 v22 r97 p98 b95 l96 (IntKind.wrap .i64 (i106 + 1)))))
 else
 (flight_Check_J10 lb n aairn1 aair2 adisn3 adis4 bcar5 bnum6 bperfro7 bperto9 bperday10 blegn11 bleg12 v22 b95 l96 ) := (hold_eq _).trans (by kernel_rfl)

theorem flight_Check_L8_zero (lb : Bool) (n : Nat) (aairn1 : Bool) (aair2 : List (List CV)) (adisn3 : Bool) (adis4 : List (List CV)) (bcar5 : List UInt8) (bnum6 : Int) (bperfro7 : Int) (bperto9 : Int) (bperday10 : Int) (blegn11 : Bool) (bleg12 : List (List CV)) (v22 : CV) (r97 : CV) (p98 : Bool × List (List CV)) (b95 : Bool) (l96 : List (List CV)) (i106 : Int) :
  flight_Check_L8 lb n 0 aairn1 aair2 adisn3 adis4 bcar5 bnum6 bperfro7 bperto9 bperday10 blegn11 bleg12 v22 r97 p98 b95 l96 i106 =
 none := (hold_eq _).trans (by kernel_rfl)

theorem flight_Check_J7_eq (lb : Bool) (n : Nat) (aairn1 : Bool) (aair2 : List (List CV)) (adisn3 : Bool) (adis4 : List (List CV)) (bcar5 : List UInt8) (bnum6 : Int) (bperfro7 : Int) (bperto9 : Int) (bperday10 : Int) (blegn11 : Bool) (bleg12 : List (List CV)) (v22 : CV) (b95 : Bool) (l96 : List (List CV)) :
  flight_Check_J7 lb n aairn1 aair2 adisn3 adis4 bcar5 bnum6 bperfro7 bperto9 bperday10 blegn11 bleg12 v22 b95 l96 =
 bif (decide ((l96.length : Int) > 0)) then
 (some (.list b95 l96))
 else
 (optO (C lb n F_period_Days [.agg [.int .i64 bperfro7, .int .i64 bperto9, .int .i64 bperday10]]) fun r97 =>
 optO (CV.asL r97) fun p98 =>
 flight_Check_L8 lb n n aairn1 aair2 adisn3 adis4 bcar5 bnum6 bperfro7 bperto9 bperday10 blegn11 bleg12 v22 r97 p98 b95 l96 0) := (hold_eq _).trans (by kernel_rfl)

theorem flight_Check_L4_succ (lb : Bool) (n k70 : Nat) (aairn1 : Bool) (aair2 : List (List CV)) (adisn3 : Bool) (adis4 : List (List CV)) (bcar5 : List UInt8) (bnum6 : Int) (bperfro7 : Int) (bperto9 : Int) (bperday10 : Int) (blegn11 : Bool) (bleg12 : List (List CV)) (v22 : CV) (i46 : Int) (b47 : Bool) (l48 : List (List CV)) :
  flight_Check_L4 lb n (k70 + 1) aairn1 aair2 adisn3 adis4 bcar5 bnum6 bperfro7 bperto9 bperday10 blegn11 bleg12 v22 i46 b47 l48 =
 bif (decide (i46 < (bleg12.length : Int))) then
 (optO (C lb n F_flight_leg [.agg [.list aairn1 aair2, .list adisn3 adis4], .list blegn11 bleg12, .int .i64 i46]) fun r71 =>
 optO (CV.asL r71) fun p72 =>
 flight_Check_L5 lb n n k70 aairn1 aair2 adisn3 adis4 bcar5 bnum6 bperfro7 bperto9 bperday10 blegn11 bleg12 v22 i46 r71 p72 0 b47 l48)
 else
 (flight_Check_J7 lb n aairn1 aair2 adisn3 adis4 bcar5 bnum6 bperfro7 bperto9 bperday10 blegn11 bleg12 v22 b47 l48) := (hold_eq _).trans (by kernel_rfl)

theorem flight_Check_L4_zero (lb : Bool) (n : Nat) (aairn1 : Bool) (aair2 : List (List CV)) (adisn3 : Bool) (adis4 : List (List CV)) (bcar5 : List UInt8) (bnum6 : Int) (bperfro7 : Int) (bperto9 : Int) (bperday10 : Int) (blegn11 : Bool) (bleg12 : List (List CV)) (v22 : CV) (i46 : Int) (b47 : Bool) (l48 : List (List CV)) :
  flight_Check_L4 lb n 0 aairn1 aair2 adisn3 adis4 bcar5 bnum6 bperfro7 bperto9 bperday10 blegn11 bleg12 v22 i46 b47 l48 =
 none := (hold_eq _).trans (by kernel_rfl)

theorem flight_Check_J3_eq (lb : Bool) (n : Nat) (aairn1 : Bool) (aair2 : List (List CV)) (adisn3 : Bool) (adis4 : List (List CV)) (bcar5 : List UInt8) (bnum6 : Int) (bperfro7 : Int) (bperto9 : Int) (bperday10 : Int) (blegn11 : Bool) (bleg12 : List (List CV)) (v22 : CV) (b23 : Bool) (l24 : List (List CV)) :
  flight_Check_J3 lb n aairn1 aair2 adisn3 adis4 bcar5 bnum6 bperfro7 bperto9 bperday10 blegn11 bleg12 v22 b23 l24 =
 bif ((bleg12.length : Int) == 0) then
 (chkO (room (l24.length + 1) 24) (
 some (.list (b23 && false) (l24 ++ [[CV.int .i64 4, CV.str [108, 101, 103, 115]]]))))
 else
 (bif (decide ((bleg12.length : Int) > 6)) then
 (chkO (room (l24.length + 1) 24) (
 some (.list (b23 && false) (l24 ++ [[CV.int .i64 4, CV.str [108, 101, 103, 115]]]))))
 else
 (flight_Check_L4 lb n n aairn1 aair2 adisn3 adis4 bcar5 bnum6 bperfro7 bperto9 bperday10 blegn11 bleg12 v22 0 b23 l24)) := (hold_eq _).trans (by kernel_rfl)

theorem flight_Check_J2_eq (lb : Bool) (n : Nat) (aairn1 : Bool) (aair2 : List (List CV)) (adisn3 : Bool) (adis4 : List (List CV)) (bcar5 : List UInt8) (bnum6 : Int) (bperfro7 : Int) (bperto9 : Int) (bperday10 : Int) (blegn11 : Bool) (bleg12 : List (List CV)) (b18 : Bool) (l19 : List (List CV)) :
  flight_Check_J2 lb n aairn1 aair2 adisn3 adis4 bcar5 bnum6 bperfro7 bperto9 bperday10 blegn11 bleg12 b18 l19 =
 optO (C lb n F_period_Check [.agg [.int .i64 bperfro7, .int .i64 bperto9, .int .i64 bperday10]]) fun r20 =>
 optO (CV.asI .i64 r20) fun i21 =>
 bif (i21 != 0) then
 (chkO (CV.isCell r20) (
 chkO (room (l19.length + 1) 24) (
 flight_Check_J3 lb n aairn1 aair2 adisn3 adis4 bcar5 bnum6 bperfro7 bperto9 bperday10 blegn11 bleg12 r20 (b18 && false) (l19 ++ [[r20, CV.str [112, 101, 114, 105, 111, 100]]]))))
 else
 (flight_Check_J3 lb n aairn1 aair2 adisn3 adis4 bcar5 bnum6 bperfro7 bperto9 bperday10 blegn11 bleg12 r20 b18 l19) := (hold_eq _).trans (by kernel_rfl)

theorem flight_Check_J1_eq (lb : Bool) (n : Nat) (aairn1 : Bool) (aair2 : List (List CV)) (adisn3 : Bool) (adis4 : List (List CV)) (bcar5 : List UInt8) (bnum6 : Int) (bperfro7 : Int) (bperto9 : Int) (bperday10 : Int) (blegn11 : Bool) (bleg12 : List (List CV)) (b15 : Bool) (l17 : List (List CV)) :
  flight_Check_J1 lb n aairn1 aair2 adisn3 adis4 bcar5 bnum6 bperfro7 bperto9 bperday10 blegn11 bleg12 b15 l17 =
 bif (decide (bnum6 < 1)) then
 (chkO (room (l17.length + 1) 24) (
 flight_Check_J2 lb n aairn1 aair2 adisn3 adis4 bcar5 bnum6 bperfro7 bperto9 bperday10 blegn11 bleg12 (b15 && false) (l17 ++ [[CV.int .i64 2, CV.str [110, 117, 109, 98, 101, 114]]])))
 else
 (bif (decide (bnum6 > 9999)) then
 (chkO (room (l17.length + 1) 24) (
 flight_Check_J2 lb n aairn1 aair2 adisn3 adis4 bcar5 bnum6 bperfro7 bperto9 bperday10 blegn11 bleg12 (b15 && false) (l17 ++ [[CV.int .i64 2, CV.str [110, 117, 109, 98, 101, 114]]])))
 else
 (flight_Check_J2 lb n aairn1 aair2 adisn3 adis4 bcar5 bnum6 bperfro7 bperto9 bperday10 blegn11 bleg12 b15 l17)) := (hold_eq _).trans (by kernel_rfl)

theorem flight_Check_eq (lb : Bool) (n : Nat) (aairn1 : Bool) (aair2 : List (List CV)) (adisn3 : Bool) (adis4 : List (List CV)) (bcar5 : List UInt8) (bnum6 : Int) (bperfro7 : Int) (bperto9 : Int) (bperday10 : Int) (blegn11 : Bool) (bleg12 : List (List CV)) :
  top lb n F_flight_Check [.agg [.list aairn1 aair2, .list adisn3 adis4], .agg [.str bcar5, .int .i64 bnum6, .int .i64 bperfro7, .int .i64 bperto9, .int .i64 bperday10, .list blegn11 bleg12]] =
 optO (C lb n F_text_Carrier [.str bcar5]) fun r13 =>
 optO (CV.asB r13) fun b14 =>
 bif (!b14) then
 (flight_Check_J1 lb n aairn1 aair2 adisn3 adis4 bcar5 bnum6 bperfro7 bperto9 bperday10 blegn11 bleg12 false [[CV.int .i64 5, CV.str [99, 97, 114, 114, 105, 101, 114]]])
 else
 (flight_Check_J1 lb n aairn1 aair2 adisn3 adis4 bcar5 bnum6 bperfro7 bperto9 bperday10 blegn11 bleg12 true []) := by kernel_rfl

/-! airline/calendar.Print -/
theorem calendar_Print_eq (lb : Bool) (n : Nat) (a1 : Int) :
  top lb n F_calendar_Print [.int .i64 a1] =
 optO (C lb n F_calendar_Date [.int .i64 a1]) fun r2 =>
 optO (CV.asT r2) fun t3 =>
 optO (t3[0]?) fun x4 =>
 optO (CV.asT r2) fun t5 =>
 optO (t5[1]?) fun x6 =>
 optO (CV.asT r2) fun t7 =>
 optO (t7[2]?) fun x9 =>
 optO (CV.asI .i64 x4) fun i10 =>
 bif (i10 == 0) then
 (some (.str []))
 else
 (optO (CV.asI .i64 x4) fun i11 =>
 optO (C lb n F_calendar_two [.int .i64 (IntKind.wrap .i64 (Int.tdiv i11 100))]) fun r12 =>
 optO (CV.asI .i64 x4) fun i13 =>
 optO (C lb n F_calendar_two [.int .i64 (Int.tmod i13 100)]) fun r14 =>
 optO (CV.asS r12) fun s15 =>
 optO (CV.asS r14) fun s17 =>
 chkO (decide (s15.length + s17.length ≤ 9223372036854775807)) (
 chkO (decide ((s15 ++ s17).length + [45].length ≤ 9223372036854775807)) (
 optO (C lb n F_calendar_two [x6]) fun r18 =>
 optO (CV.asS r18) fun s19 =>
 chkO (decide (((s15 ++ s17) ++ [45]).length + s19.length ≤ 9223372036854775807)) (
 chkO (decide ((((s15 ++ s17) ++ [45]) ++ s19).length + [45].length ≤ 9223372036854775807)) (
 optO (C lb n F_calendar_two [x9]) fun r20 =>
 optO (CV.asS r20) fun s21 =>
 chkO (decide (((((s15 ++ s17) ++ [45]) ++ s19) ++ [45]).length + s21.length ≤ 9223372036854775807)) (
 some (.str (((((s15 ++ s17) ++ [45]) ++ s19) ++ [45]) ++ s21)))))))) := by kernel_rfl

/-! airline/calendar.Date -/
noncomputable def calendar_Date_L1 (lb : Bool) (n : Nat) (k7 : Nat) (a1 : Int) (i4 : Int) : Option CV :=
  hold (loopC (E0 lb n 0 994) 0 (loopTemps (sub (B F_calendar_Date) [1, 1, 1, 0, 0, 0]) ++ []) [] (sub (B F_calendar_Date) [1, 1, 1, 0, 0, 0]) (blockK 0 (seqK (E0 lb n 0 996) (sub (B F_calendar_Date) [1, 1, 1, 0]) (sub (B F_calendar_Date) [1, 1, 1, 1]) (retK Tryz.prog (R F_calendar_Date) 0 (outK (tightF Tryz.prog F_calendar_Date))))) k7 ⟨fr 48 [(0, .val (.int .i64 a1)), (2, .val (.int .i64 0)), (3, .val (.int .i64 0)), (4, .val (.int .i64 0)), (5, .val (.int .i64 i4)), (15, .val (.int .i64 a1)), (16, .val (.int .i64 (IntKind.wrap .i64 (Int.tdiv a1 366)))), (17, .val (.int .i64 (IntKind.wrap .i64 (2000 + (IntKind.wrap .i64 (Int.tdiv a1 366))))))], [bx 48 []], KK⟩)

noncomputable def calendar_Date_J2 (lb : Bool) (n : Nat) (a1 : Int) (i11 : Int) : Option CV :=
  hold (E0 lb n 0 996 (sub (B F_calendar_Date) [1, 1, 1, 1]) (retK Tryz.prog (R F_calendar_Date) 0 (outK (tightF Tryz.prog F_calendar_Date))) ⟨fr 48 [(0, .val (.int .i64 a1)), (2, .val (.int .i64 0)), (3, .val (.int .i64 0)), (4, .val (.int .i64 0)), (5, .val (.int .i64 i11)), (15, .val (.int .i64 a1)), (16, .val (.int .i64 (IntKind.wrap .i64 (Int.tdiv a1 366)))), (17, .val (.int .i64 (IntKind.wrap .i64 (2000 + (IntKind.wrap .i64 (Int.tdiv a1 366))))))], [bx 48 []], KK⟩)

noncomputable def calendar_Date_L3 (lb : Bool) (n : Nat) (k23 : Nat) (a1 : Int) (i11 : Int) (r12 : CV) (i13 : Int) (i18 : Int) (i19 : Int) : Option CV :=
  hold (loopC (E0 lb n 0 991) 0 (loopTemps (sub (B F_calendar_Date) [1, 1, 1, 1, 1, 0, 1, 0, 0]) ++ [7, 8]) [] (sub (B F_calendar_Date) [1, 1, 1, 1, 1, 0, 1, 0, 0]) (blockK 2 (seqK (E0 lb n 0 994) (sub (B F_calendar_Date) [1, 1, 1, 1, 1, 0]) (sub (B F_calendar_Date) [1, 1, 1, 1, 1, 1]) (retK Tryz.prog (R F_calendar_Date) 0 (outK (tightF Tryz.prog F_calendar_Date))))) k23 ⟨fr 48 [(0, .val (.int .i64 a1)), (2, .val (.int .i64 0)), (3, .val (.int .i64 0)), (4, .val (.int .i64 0)), (5, .val (.int .i64 i11)), (6, .val (.int .i64 i18)), (15, .val (.int .i64 a1)), (16, .val (.int .i64 (IntKind.wrap .i64 (Int.tdiv a1 366)))), (17, .val (.int .i64 (IntKind.wrap .i64 (2000 + (IntKind.wrap .i64 (Int.tdiv a1 366)))))), (25, .val (.int .i64 a1)), (26, .val (.int .i64 i11)), (27, .val r12), (28, .val (.int .i64 (IntKind.wrap .i64 (a1 - i13)))), (29, .val (.int .i64 i19))], [bx 48 []], KK⟩)

noncomputable def calendar_Date_J4 (lb : Bool) (n : Nat) (a1 : Int) (i11 : Int) (r12 : CV) (i13 : Int) (i27 : Int) : Option CV :=
  hold (E0 lb n 0 994 (sub (B F_calendar_Date) [1, 1, 1, 1, 1, 1]) (retK Tryz.prog (R F_calendar_Date) 0 (outK (tightF Tryz.prog F_calendar_Date))) ⟨fr 48 [(0, .val (.int .i64 a1)), (2, .val (.int .i64 0)), (3, .val (.int .i64 0)), (4, .val (.int .i64 0)), (5, .val (.int .i64 i11)), (6, .val (.int .i64 i27)), (15, .val (.int .i64 a1)), (16, .val (.int .i64 (IntKind.wrap .i64 (Int.tdiv a1 366)))), (17, .val (.int .i64 (IntKind.wrap .i64 (2000 + (IntKind.wrap .i64 (Int.tdiv a1 366)))))), (25, .val (.int .i64 a1)), (26, .val (.int .i64 i11)), (27, .val r12), (28, .val (.int .i64 (IntKind.wrap .i64 (a1 - i13))))], [bx 48 []], KK⟩)

theorem calendar_Date_J4_eq (lb : Bool) (n : Nat) (a1 : Int) (i11 : Int) (r12 : CV) (i13 : Int) (i27 : Int) :
  calendar_Date_J4 lb n a1 i11 r12 i13 i27 =
 some (.tup [.int .i64 0, .int .i64 0, .int .i64 0]) := (hold_eq _).trans (by kernel_rfl)

theorem calendar_Date_L3_succ (lb : Bool) (n k23 : Nat) (a1 : Int) (i11 : Int) (r12 : CV) (i13 : Int) (i18 : Int) (i19 : Int) :
  calendar_Date_L3 lb n (k23 + 1) a1 i11 r12 i13 i18 i19 =
 bif (decide (i19 < 12)) then
 (optO (C lb n F_calendar_length [.int .i64 i11, .int .i64 (IntKind.wrap .i64 (i19 + 1))]) fun r24 =>
 optO (CV.asI .i64 r24) fun i25 =>
 bif (decide (i18 < i25)) then
 (some (.tup [.int .i64 i11, .int .i64 (IntKind.wrap .i64 (i19 + 1)), .int .i64 (IntKind.wrap .i64 (i18 + 1))]))
 else
 (optO (CV.asI .i64 r24) fun i26 =>
 calendar_Date_L3 lb n k23 a1 i11 r12 i13 (IntKind.wrap .i64 (i18 - i26)) (IntKind.wrap .i64 (i19 + 1))))
 else
 (calendar_Date_J4 lb n a1 i11 r12 i13 i18) := (hold_eq _).trans (by kernel_rfl)

theorem calendar_Date_L3_zero (lb : Bool) (n : Nat) (a1 : Int) (i11 : Int) (r12 : CV) (i13 : Int) (i18 : Int) (i19 : Int) :
  calendar_Date_L3 lb n 0 a1 i11 r12 i13 i18 i19 =
 none := (hold_eq _).trans (by kernel_rfl)

theorem calendar_Date_J2_eq (lb : Bool) (n : Nat) (a1 : Int) (i11 : Int) :
  calendar_Date_J2 lb n a1 i11 =
 optO (C lb n F_calendar_first [.int .i64 i11]) fun r12 =>
 optO (CV.asI .i64 r12) fun i13 =>
 calendar_Date_L3 lb n n a1 i11 r12 i13 (IntKind.wrap .i64 (a1 - i13)) 0 := (hold_eq _).trans (by kernel_rfl)

theorem calendar_Date_L1_succ (lb : Bool) (n k7 : Nat) (a1 : Int) (i4 : Int) :
  calendar_Date_L1 lb n (k7 + 1) a1 i4 =
 optO (C lb n F_calendar_first [.int .i64 (IntKind.wrap .i64 (i4 + 1))]) fun r9 =>
 optO (CV.asI .i64 r9) fun i10 =>
 bif (decide (i10 ≤ a1)) then
 (calendar_Date_L1 lb n k7 a1 (IntKind.wrap .i64 (i4 + 1)))
 else
 (calendar_Date_J2 lb n a1 i4) := (hold_eq _).trans (by kernel_rfl)

theorem calendar_Date_L1_zero (lb : Bool) (n : Nat) (a1 : Int) (i4 : Int) :
  calendar_Date_L1 lb n 0 a1 i4 =
 none := (hold_eq _).trans (by kernel_rfl)

theorem calendar_Date_eq (lb : Bool) (n : Nat) (a1 : Int) :
  top lb n F_calendar_Date [.int .i64 a1] =
 bif (decide (a1 < 0)) then
 (some (.tup [.int .i64 0, .int .i64 0, .int .i64 0]))
 else
 (bif (decide (a1 ≥ 36525)) then
 (some (.tup [.int .i64 0, .int .i64 0, .int .i64 0]))
 else
 (calendar_Date_L1 lb n n a1 (IntKind.wrap .i64 (2000 + (IntKind.wrap .i64 (Int.tdiv a1 366)))))) := by kernel_rfl

/-! airline/calendar.two -/
theorem calendar_two_eq (lb : Bool) (n : Nat) (a1 : Int) :
  top lb n F_calendar_two [.int .i64 a1] =
 optO (bytesOf [[CV.int .u8 (IntKind.wrap .u8 (IntKind.wrap .i64 (48 + (IntKind.wrap .i64 (Int.tdiv a1 10)))))], [CV.int .u8 (IntKind.wrap .u8 (IntKind.wrap .i64 (48 + (Int.tmod a1 10))))]]) fun s2 =>
 some (.str s2) := by kernel_rfl

/-! airline/calendar.first -/
theorem calendar_first_eq (lb : Bool) (n : Nat) (a1 : Int) :
  top lb n F_calendar_first [.int .i64 a1] =
 some (.int .i64 (IntKind.wrap .i64 ((IntKind.wrap .i64 (365 * (IntKind.wrap .i64 (a1 - 2000)))) + (IntKind.wrap .i64 (Int.tdiv (IntKind.wrap .i64 ((IntKind.wrap .i64 (a1 - 2000)) + 3)) 4))))) := by kernel_rfl

/-! airline/airlineref03.Print -/
theorem r03_Print_eq (lb : Bool) (n : Nat) (a1 : Int) :
  top lb n F_r03_Print [.int .i64 a1] =
 optO (C lb n F_r03_Date [.int .i64 a1]) fun r2 =>
 optO (CV.asT r2) fun t3 =>
 optO (t3[0]?) fun x4 =>
 optO (CV.asT r2) fun t5 =>
 optO (t5[1]?) fun x6 =>
 optO (CV.asT r2) fun t7 =>
 optO (t7[2]?) fun x9 =>
 optO (CV.asI .i64 x4) fun i10 =>
 bif (i10 == 0) then
 (some (.str []))
 else
 (optO (CV.asI .i64 x4) fun i11 =>
 optO (C lb n F_r03_two [.int .i64 (IntKind.wrap .i64 (Int.tdiv i11 100))]) fun r12 =>
 optO (CV.asI .i64 x4) fun i13 =>
 optO (C lb n F_r03_two [.int .i64 (Int.tmod i13 100)]) fun r14 =>
 optO (CV.asS r12) fun s15 =>
 optO (CV.asS r14) fun s17 =>
 chkO (decide (s15.length + s17.length ≤ 9223372036854775807)) (
 chkO (decide ((s15 ++ s17).length + [45].length ≤ 9223372036854775807)) (
 optO (C lb n F_r03_two [x6]) fun r18 =>
 optO (CV.asS r18) fun s19 =>
 chkO (decide (((s15 ++ s17) ++ [45]).length + s19.length ≤ 9223372036854775807)) (
 chkO (decide ((((s15 ++ s17) ++ [45]) ++ s19).length + [45].length ≤ 9223372036854775807)) (
 optO (C lb n F_r03_two [x9]) fun r20 =>
 optO (CV.asS r20) fun s21 =>
 chkO (decide (((((s15 ++ s17) ++ [45]) ++ s19) ++ [45]).length + s21.length ≤ 9223372036854775807)) (
 some (.str (((((s15 ++ s17) ++ [45]) ++ s19) ++ [45]) ++ s21)))))))) := by kernel_rfl

/-! airline/airlineref03.Date -/
noncomputable def r03_Date_L1 (lb : Bool) (n : Nat) (k24 : Nat) (i17 : Int) (i18 : Int) (i19 : Int) : Option CV :=
  hold (loopC (E0 lb n 0 994) 0 (loopTemps (sub (B F_r03_Date) [1, 1, 1, 0, 0, 0]) ++ []) [] (sub (B F_r03_Date) [1, 1, 1, 0, 0, 0]) (blockK 0 (seqK (E0 lb n 0 996) (sub (B F_r03_Date) [1, 1, 1, 0]) (sub (B F_r03_Date) [1, 1, 1, 1]) (retK Tryz.prog (R F_r03_Date) 0 (outK (tightF Tryz.prog F_r03_Date))))) k24 ⟨fr 33 [(0, .val (.int .i64 i17)), (2, .val (.int .i64 0)), (3, .val (.int .i64 0)), (4, .val (.int .i64 0)), (5, .val (.int .i64 i18)), (6, .val (.int .i64 i19))], [bx 33 []], KK⟩)

noncomputable def r03_Date_J2 (lb : Bool) (n : Nat) (i29 : Int) (i30 : Int) (i31 : Int) : Option CV :=
  hold (E0 lb n 0 996 (sub (B F_r03_Date) [1, 1, 1, 1]) (retK Tryz.prog (R F_r03_Date) 0 (outK (tightF Tryz.prog F_r03_Date))) ⟨fr 33 [(0, .val (.int .i64 i29)), (2, .val (.int .i64 0)), (3, .val (.int .i64 0)), (4, .val (.int .i64 0)), (5, .val (.int .i64 i30)), (6, .val (.int .i64 i31))], [bx 33 []], KK⟩)

theorem r03_Date_J2_eq (lb : Bool) (n : Nat) (i29 : Int) (i30 : Int) (i31 : Int) :
  r03_Date_J2 lb n i29 i30 i31 =
 some (.tup [.int .i64 i30, .int .i64 i31, .int .i64 (IntKind.wrap .i64 (i29 + 1))]) := (hold_eq _).trans (by kernel_rfl)

theorem r03_Date_L1_succ (lb : Bool) (n k24 : Nat) (i17 : Int) (i18 : Int) (i19 : Int) :
  r03_Date_L1 lb n (k24 + 1) i17 i18 i19 =
 optO (C lb n F_r03_Length [.int .i64 i18, .int .i64 i19]) fun r25 =>
 optO (CV.asI .i64 r25) fun i26 =>
 bif (decide (i17 ≥ i26)) then
 (optO (C lb n F_r03_Length [.int .i64 i18, .int .i64 i19]) fun r27 =>
 optO (CV.asI .i64 r27) fun i28 =>
 bif ((IntKind.wrap .i64 (i19 + 1)) == 13) then
 (r03_Date_L1 lb n k24  (IntKind.wrap .i64 (i17 - i28)) (IntKind.wrap .i64 (i18 + 1)) 1)
 else
 (r03_Date_L1 lb n k24  (IntKind.wrap .i64 (i17 - i28)) i18 (IntKind.wrap .i64 (i19 + 1))))
 else
 (r03_Date_J2 lb n  i17 i18 i19) := (hold_eq _).trans (by kernel_rfl)

theorem r03_Date_L1_zero (lb : Bool) (n : Nat) (i17 : Int) (i18 : Int) (i19 : Int) :
  r03_Date_L1 lb n 0 i17 i18 i19 =
 none := (hold_eq _).trans (by kernel_rfl)

theorem r03_Date_eq (lb : Bool) (n : Nat) (a1 : Int) :
  top lb n F_r03_Date [.int .i64 a1] =
 bif (decide (a1 < 0)) then
 (some (.tup [.int .i64 0, .int .i64 0, .int .i64 0]))
 else
 (bif (decide (a1 ≥ 36525)) then
 (some (.tup [.int .i64 0, .int .i64 0, .int .i64 0]))
 else
 (r03_Date_L1 lb n n  a1 2000 1)) := by kernel_rfl

/-! airline/airlineref03.two -/
theorem r03_two_eq (lb : Bool) (n : Nat) (a1 : Int) :
  top lb n F_r03_two [.int .i64 a1] =
 optO (bytesOf [[CV.int .u8 (IntKind.wrap .u8 (IntKind.wrap .i64 (48 + (IntKind.wrap .i64 (Int.tdiv a1 10)))))], [CV.int .u8 (IntKind.wrap .u8 (IntKind.wrap .i64 (48 + (Int.tmod a1 10))))]]) fun s2 =>
 some (.str s2) := by kernel_rfl

/-! airline/airlineref03.Length -/
noncomputable def r03_Length_J1 (lb : Bool) (n : Nat) (a1 : Int) (b2 : Int) (b3 : Bool) : Option CV :=
  hold (E0 lb n 0 995 (sub (B F_r03_Length) [1, 0, 1, 0, 1]) (blockK 0 (seqK (E0 lb n 0 998) (sub (B F_r03_Length) [1, 0]) (sub (B F_r03_Length) [1, 1]) (retK Tryz.prog (R F_r03_Length) 0 (outK (tightF Tryz.prog F_r03_Length))))) ⟨fr 16 [(0, .val (.int .i64 a1)), (1, .val (.int .i64 b2)), (4, .val (.int .i64 0)), (5, .val (.int .i64 b2)), (6, .val (.bool b3))], [bx 16 []], KK⟩)

theorem r03_Length_J1_eq (lb : Bool) (n : Nat) (a1 : Int) (b2 : Int) (b3 : Bool) :
  r03_Length_J1 lb n a1 b2 b3 =
 bif b3 then
 (some (.int .i64 30))
 else
 (bif (b2 == 2) then
 (bif ((Int.tmod a1 4) == 0) then
 (some (.int .i64 29))
 else
 (some (.int .i64 28)))
 else
 (some (.int .i64 31))) := (hold_eq _).trans (by kernel_rfl)

theorem r03_Length_eq (lb : Bool) (n : Nat) (a1 : Int) (b2 : Int) :
  top lb n F_r03_Length [.int .i64 a1, .int .i64 b2] =
 bif (b2 == 4) then
 (r03_Length_J1 lb n a1 b2 (b2 == 4))
 else
 (bif (b2 == 6) then
 (r03_Length_J1 lb n a1 b2 (b2 == 6))
 else
 (bif (b2 == 9) then
 (r03_Length_J1 lb n a1 b2 (b2 == 9))
 else
 (r03_Length_J1 lb n a1 b2 (b2 == 11)))) := by kernel_rfl

end Go.Proofs
