/- Equations of functions, printed by program. Conditions: none. -/
import Derived.Test.YtifjdkimbamdkaaDoorTEv
namespace Go.Proofs
open Go.Am
set_option maxRecDepth 100000
set_option linter.unusedVariables false
/-! airline/airlineref06.Find -/
noncomputable def r06_Find_L1 (lb : Bool) (n : Nat) (k27 : Nat) (aairn1 : Bool) (aair2 : List (List CV)) (adisn3 : Bool) (adis4 : List (List CV)) (b5 : List UInt8) (i17 : Int) : Option CV :=
  hold (loopC (E0 lb n 0 995) 0 (loopTemps (sub (B F_r06_Find) [1, 0, 1, 0, 0]) ++ []) [] (sub (B F_r06_Find) [1, 0, 1, 0, 0]) (blockK 0 (seqK (E0 lb n 0 998) (sub (B F_r06_Find) [1, 0]) (sub (B F_r06_Find) [1, 1]) (retK Tryd.prog (R F_r06_Find) 0 (outK (tightF Tryd.prog F_r06_Find))))) k27 ⟨fr 28 [(0, .val (.agg [.list aairn1 aair2, .list adisn3 adis4])), (1, .val (.str b5)), (2, .ptr 0 2 0), (4, .ptr 0 4 0), (5, .val (.bool false)), (6, .val (.int .i64 i17))], [bx 28 [(2, some [.val (.list aairn1 aair2), .val (.list adisn3 adis4)]), (4, some [.val (.str []), .val (.str []), .val (.str []), .val (.int .i64 0), .lst true true 110 []])]], KK⟩)

noncomputable def r06_Find_J2 (lb : Bool) (n : Nat) (aairn1 : Bool) (aair2 : List (List CV)) (adisn3 : Bool) (adis4 : List (List CV)) (b5 : List UInt8) (i38 : Int) : Option CV :=
  hold (E0 lb n 0 998 (sub (B F_r06_Find) [1, 1]) (retK Tryd.prog (R F_r06_Find) 0 (outK (tightF Tryd.prog F_r06_Find))) ⟨fr 28 [(0, .val (.agg [.list aairn1 aair2, .list adisn3 adis4])), (1, .val (.str b5)), (2, .ptr 0 2 0), (4, .ptr 0 4 0), (5, .val (.bool false)), (6, .val (.int .i64 i38))], [bx 28 [(2, some [.val (.list aairn1 aair2), .val (.list adisn3 adis4)]), (4, some [.val (.str []), .val (.str []), .val (.str []), .val (.int .i64 0), .lst true true 110 []])]], KK⟩)

theorem r06_Find_J2_eq (lb : Bool) (n : Nat) (aairn1 : Bool) (aair2 : List (List CV)) (adisn3 : Bool) (adis4 : List (List CV)) (b5 : List UInt8) (i38 : Int) :
  r06_Find_J2 lb n aairn1 aair2 adisn3 adis4 b5 i38 =
 some (.tup [.agg [.str [], .str [], .str [], .int .i64 0, .list true []], .bool false]) := (hold_eq _).trans (by kernel_rfl)

theorem r06_Find_L1_succ (lb : Bool) (n k27 : Nat) (aairn1 : Bool) (aair2 : List (List CV)) (adisn3 : Bool) (adis4 : List (List CV)) (b5 : List UInt8) (i17 : Int) :
  r06_Find_L1 lb n (k27 + 1) aairn1 aair2 adisn3 adis4 b5 i17 =
 bif (decide (i17 < (aair2.length : Int))) then
 (optO (atL aair2 i17) fun c28 =>
 chkO (c28.length == 5) (
 optO (c28[0]?) fun x29 =>
 optO (CV.asS x29) fun s30 =>
 bif (s30 == b5) then
 (optO (atL aair2 i17) fun c31 =>
 chkO (c31.length == 5) (
 optO (c31[0]?) fun x33 =>
 optO (c31[1]?) fun x34 =>
 optO (c31[2]?) fun x35 =>
 optO (c31[3]?) fun x36 =>
 optO (c31[4]?) fun x37 =>
 some (.tup [.agg [x33, x34, x35, x36, x37], .bool true])))
 else
 (r06_Find_L1 lb n k27 aairn1 aair2 adisn3 adis4 b5 (IntKind.wrap .i64 (i17 + 1)))))
 else
 (r06_Find_J2 lb n aairn1 aair2 adisn3 adis4 b5 i17) := (hold_eq _).trans (by kernel_rfl)

theorem r06_Find_L1_zero (lb : Bool) (n : Nat) (aairn1 : Bool) (aair2 : List (List CV)) (adisn3 : Bool) (adis4 : List (List CV)) (b5 : List UInt8) (i17 : Int) :
  r06_Find_L1 lb n 0 aairn1 aair2 adisn3 adis4 b5 i17 =
 none := (hold_eq _).trans (by kernel_rfl)

theorem r06_Find_eq (lb : Bool) (n : Nat) (aairn1 : Bool) (aair2 : List (List CV)) (adisn3 : Bool) (adis4 : List (List CV)) (b5 : List UInt8) :
  top lb n F_r06_Find [.agg [.list aairn1 aair2, .list adisn3 adis4], .str b5] =
 r06_Find_L1 lb n n aairn1 aair2 adisn3 adis4 b5 0 := by kernel_rfl

/-! airline/places.Find -/
noncomputable def places_Find_L1 (lb : Bool) (n : Nat) (k23 : Nat) (aairn1 : Bool) (aair2 : List (List CV)) (adisn3 : Bool) (adis4 : List (List CV)) (b5 : List UInt8) (i14 : Int) : Option CV :=
  hold (loopC (E0 lb n 0 995) 0 (loopTemps (sub (B F_places_Find) [1, 0, 1, 0, 0]) ++ []) [7] (sub (B F_places_Find) [1, 0, 1, 0, 0]) (blockK 0 (seqK (E0 lb n 0 998) (sub (B F_places_Find) [1, 0]) (sub (B F_places_Find) [1, 1]) (retK Tryd.prog (R F_places_Find) 0 (outK (tightF Tryd.prog F_places_Find))))) k23 ⟨fr 22 [(0, .val (.agg [.list aairn1 aair2, .list adisn3 adis4])), (1, .val (.str b5)), (2, .ptr 0 2 0), (4, .ptr 0 4 0), (5, .val (.bool false)), (8, .ptr 0 2 0), (9, .val (.list aairn1 aair2)), (10, .val (.int .i64 (aair2.length : Int))), (11, .val (.int .i64 i14))], [bx 22 [(2, some [.val (.list aairn1 aair2), .val (.list adisn3 adis4)]), (4, some [.val (.str []), .val (.str []), .val (.str []), .val (.int .i64 0), .lst true true 110 []])]], KK⟩)

noncomputable def places_Find_J2 (lb : Bool) (n : Nat) (aairn1 : Bool) (aair2 : List (List CV)) (adisn3 : Bool) (adis4 : List (List CV)) (b5 : List UInt8) : Option CV :=
  hold (E0 lb n 0 998 (sub (B F_places_Find) [1, 1]) (retK Tryd.prog (R F_places_Find) 0 (outK (tightF Tryd.prog F_places_Find))) ⟨fr 22 [(0, .val (.agg [.list aairn1 aair2, .list adisn3 adis4])), (1, .val (.str b5)), (2, .ptr 0 2 0), (4, .ptr 0 4 0), (5, .val (.bool false))], [bx 22 [(2, some [.val (.list aairn1 aair2), .val (.list adisn3 adis4)]), (4, some [.val (.str []), .val (.str []), .val (.str []), .val (.int .i64 0), .lst true true 110 []])]], KK⟩)

theorem places_Find_J2_eq (lb : Bool) (n : Nat) (aairn1 : Bool) (aair2 : List (List CV)) (adisn3 : Bool) (adis4 : List (List CV)) (b5 : List UInt8) :
  places_Find_J2 lb n aairn1 aair2 adisn3 adis4 b5 =
 some (.tup [.agg [.str [], .str [], .str [], .int .i64 0, .list true []], .bool false]) := (hold_eq _).trans (by kernel_rfl)

theorem places_Find_L1_succ (lb : Bool) (n k23 : Nat) (aairn1 : Bool) (aair2 : List (List CV)) (adisn3 : Bool) (adis4 : List (List CV)) (b5 : List UInt8) (i14 : Int) :
  places_Find_L1 lb n (k23 + 1) aairn1 aair2 adisn3 adis4 b5 i14 =
 bif (decide (i14 < (aair2.length : Int))) then
 (optO (atL aair2 i14) fun c24 =>
 chkO (c24.length == 5) (
 optO (c24[0]?) fun x25 =>
 optO (c24[1]?) fun x26 =>
 optO (c24[2]?) fun x27 =>
 optO (c24[3]?) fun x28 =>
 optO (c24[4]?) fun x29 =>
 optO (CV.asS x25) fun s30 =>
 bif (s30 == b5) then
 (some (.tup [.agg [x25, x26, x27, x28, x29], .bool true]))
 else
 (places_Find_L1 lb n k23 aairn1 aair2 adisn3 adis4 b5 (IntKind.wrap .i64 (i14 + 1)))))
 else
 (places_Find_J2 lb n aairn1 aair2 adisn3 adis4 b5 ) := (hold_eq _).trans (by kernel_rfl)

theorem places_Find_L1_zero (lb : Bool) (n : Nat) (aairn1 : Bool) (aair2 : List (List CV)) (adisn3 : Bool) (adis4 : List (List CV)) (b5 : List UInt8) (i14 : Int) :
  places_Find_L1 lb n 0 aairn1 aair2 adisn3 adis4 b5 i14 =
 none := (hold_eq _).trans (by kernel_rfl)

theorem places_Find_eq (lb : Bool) (n : Nat) (aairn1 : Bool) (aair2 : List (List CV)) (adisn3 : Bool) (adis4 : List (List CV)) (b5 : List UInt8) :
  top lb n F_places_Find [.agg [.list aairn1 aair2, .list adisn3 adis4], .str b5] =
 places_Find_L1 lb n n aairn1 aair2 adisn3 adis4 b5 0 := by kernel_rfl

/-! airline/zone.UTC -/
noncomputable def zone_UTC_L1 (lb : Bool) (n : Nat) (k27 : Nat) (aoff1 : Int) (ashin2 : Bool) (ashi3 : List (List CV)) (b4 : Int) (r5 : CV) (p6 : Bool × List (List CV)) (i17 : Int) (i18 : Int) : Option CV :=
  hold (loopC (E0 lb n 0 994) 0 (loopTemps (sub (B F_zone_UTC) [1, 1, 0, 1, 0, 0]) ++ []) [7] (sub (B F_zone_UTC) [1, 1, 0, 1, 0, 0]) (blockK 0 (seqK (E0 lb n 0 997) (sub (B F_zone_UTC) [1, 1, 0]) (sub (B F_zone_UTC) [1, 1, 1]) (retK Tryd.prog (R F_zone_UTC) 0 (outK (tightF Tryd.prog F_zone_UTC))))) k27 ⟨fr 28 [(0, .val (.agg [.int .i64 aoff1, .list ashin2 ashi3])), (1, .val (.int .i64 b4)), (2, .ptr 0 2 0), (4, .val (.int .i64 0)), (5, .val (.int .i64 i17)), (8, .val (.agg [.int .i64 aoff1, .list ashin2 ashi3])), (9, .val r5), (10, .val (.int .i64 (p6.2.length : Int))), (11, .val (.int .i64 i18))], [bx 28 [(2, some [.val (.int .i64 aoff1), .val (.list ashin2 ashi3)])]], KK⟩)

noncomputable def zone_UTC_J2 (lb : Bool) (n : Nat) (aoff1 : Int) (ashin2 : Bool) (ashi3 : List (List CV)) (b4 : Int) (i37 : Int) (v38 : CV) (v39 : CV) (v40 : CV) : Option CV :=
  hold (E0 lb n 0 997 (sub (B F_zone_UTC) [1, 1, 1]) (retK Tryd.prog (R F_zone_UTC) 0 (outK (tightF Tryd.prog F_zone_UTC))) ⟨fr 28 [(0, .val (.agg [.int .i64 aoff1, .list ashin2 ashi3])), (1, .val (.int .i64 b4)), (2, .ptr 0 2 0), (4, .val (.int .i64 0)), (5, .val (.int .i64 i37))], [bx 28 [(2, some [.val (.int .i64 aoff1), .val (.list ashin2 ashi3)]), (7, some [.val v38, .val v39, .val v40])]], KK⟩)

theorem zone_UTC_J2_eq (lb : Bool) (n : Nat) (aoff1 : Int) (ashin2 : Bool) (ashi3 : List (List CV)) (b4 : Int) (i37 : Int) (v38 : CV) (v39 : CV) (v40 : CV) :
  zone_UTC_J2 lb n aoff1 ashin2 ashi3 b4 i37 v38 v39 v40 =
 some (.int .i64 i37) := (hold_eq _).trans (by kernel_rfl)

noncomputable def zone_UTC_J3 (lb : Bool) (n : Nat) (aoff1 : Int) (ashin2 : Bool) (ashi3 : List (List CV)) (b4 : Int) (i41 : Int) : Option CV :=
  hold (E0 lb n 0 997 (sub (B F_zone_UTC) [1, 1, 1]) (retK Tryd.prog (R F_zone_UTC) 0 (outK (tightF Tryd.prog F_zone_UTC))) ⟨fr 28 [(0, .val (.agg [.int .i64 aoff1, .list ashin2 ashi3])), (1, .val (.int .i64 b4)), (2, .ptr 0 2 0), (4, .val (.int .i64 0)), (5, .val (.int .i64 i41))], [bx 28 [(2, some [.val (.int .i64 aoff1), .val (.list ashin2 ashi3)])]], KK⟩)

theorem zone_UTC_J3_eq (lb : Bool) (n : Nat) (aoff1 : Int) (ashin2 : Bool) (ashi3 : List (List CV)) (b4 : Int) (i41 : Int) :
  zone_UTC_J3 lb n aoff1 ashin2 ashi3 b4 i41 =
 some (.int .i64 i41) := (hold_eq _).trans (by kernel_rfl)

theorem zone_UTC_L1_succ (lb : Bool) (n k27 : Nat) (aoff1 : Int) (ashin2 : Bool) (ashi3 : List (List CV)) (b4 : Int) (r5 : CV) (p6 : Bool × List (List CV)) (i17 : Int) (i18 : Int) :
  zone_UTC_L1 lb n (k27 + 1) aoff1 ashin2 ashi3 b4 r5 p6 i17 i18 =
 bif (decide (i18 < (p6.2.length : Int))) then
 (optO (CV.asL r5) fun p28 =>
 optO (atL p28.2 i18) fun c29 =>
 chkO (c29.length == 3) (
 optO (c29[0]?) fun x30 =>
 optO (c29[1]?) fun x31 =>
 optO (c29[2]?) fun x33 =>
 optO (CV.asI .i64 x33) fun i34 =>
 optO (CV.asI .i64 x30) fun i35 =>
 optO (CV.asI .i64 x31) fun i36 =>
 bif (decide ((if (IntKind.wrap .i64 (b4 - i34)) > i35 then (IntKind.wrap .i64 (b4 - i34)) else i35) < i36)) then
 (zone_UTC_J2 lb n aoff1 ashin2 ashi3 b4 (if (IntKind.wrap .i64 (b4 - i34)) > i35 then (IntKind.wrap .i64 (b4 - i34)) else i35) x30 x31 x33)
 else
 (zone_UTC_L1 lb n k27 aoff1 ashin2 ashi3 b4 r5 p6 (if (IntKind.wrap .i64 (b4 - i34)) > i35 then (IntKind.wrap .i64 (b4 - i34)) else i35) (IntKind.wrap .i64 (i18 + 1)))))
 else
 (zone_UTC_J3 lb n aoff1 ashin2 ashi3 b4 i17) := (hold_eq _).trans (by kernel_rfl)

theorem zone_UTC_L1_zero (lb : Bool) (n : Nat) (aoff1 : Int) (ashin2 : Bool) (ashi3 : List (List CV)) (b4 : Int) (r5 : CV) (p6 : Bool × List (List CV)) (i17 : Int) (i18 : Int) :
  zone_UTC_L1 lb n 0 aoff1 ashin2 ashi3 b4 r5 p6 i17 i18 =
 none := (hold_eq _).trans (by kernel_rfl)

theorem zone_UTC_eq (lb : Bool) (n : Nat) (aoff1 : Int) (ashin2 : Bool) (ashi3 : List (List CV)) (b4 : Int) :
  top lb n F_zone_UTC [.agg [.int .i64 aoff1, .list ashin2 ashi3], .int .i64 b4] =
 optO (C lb n F_zone_spans [.agg [.int .i64 aoff1, .list ashin2 ashi3]]) fun r5 =>
 optO (CV.asL r5) fun p6 =>
 zone_UTC_L1 lb n n aoff1 ashin2 ashi3 b4 r5 p6 0 0 := by kernel_rfl

/-! airline/airlineref05.UTC -/
noncomputable def r05_UTC_L1 (lb : Bool) (n : Nat) (k27 : Nat) (aoff1 : Int) (ashin2 : Bool) (ashi3 : List (List CV)) (b4 : Int) (i15 : Int) (i17 : Int) : Option CV :=
  hold (loopC (E0 lb n 0 994) 0 (loopTemps (sub (B F_r05_UTC) [1, 1, 0, 1, 0, 0]) ++ []) [] (sub (B F_r05_UTC) [1, 1, 0, 1, 0, 0]) (blockK 0 (seqK (E0 lb n 0 997) (sub (B F_r05_UTC) [1, 1, 0]) (sub (B F_r05_UTC) [1, 1, 1]) (retK Tryd.prog (R F_r05_UTC) 0 (outK (tightF Tryd.prog F_r05_UTC))))) k27 ⟨fr 43 [(0, .val (.agg [.int .i64 aoff1, .list ashin2 ashi3])), (1, .val (.int .i64 b4)), (2, .ptr 0 2 0), (4, .val (.int .i64 0)), (5, .val (.int .i64 i15)), (6, .val (.int .i64 i17)), (7, .val (.int .i64 b4)), (8, .ptr 0 2 0), (9, .val (.int .i64 aoff1)), (10, .val (.int .i64 (IntKind.wrap .i64 (b4 - aoff1))))], [bx 43 [(2, some [.val (.int .i64 aoff1), .val (.list ashin2 ashi3)])]], KK⟩)

noncomputable def r05_UTC_J2 (lb : Bool) (n : Nat) (aoff1 : Int) (ashin2 : Bool) (ashi3 : List (List CV)) (b4 : Int) (i38 : Int) (i39 : Int) : Option CV :=
  hold (E0 lb n 0 997 (sub (B F_r05_UTC) [1, 1, 1]) (retK Tryd.prog (R F_r05_UTC) 0 (outK (tightF Tryd.prog F_r05_UTC))) ⟨fr 43 [(0, .val (.agg [.int .i64 aoff1, .list ashin2 ashi3])), (1, .val (.int .i64 b4)), (2, .ptr 0 2 0), (4, .val (.int .i64 0)), (5, .val (.int .i64 i38)), (6, .val (.int .i64 i39)), (7, .val (.int .i64 b4)), (8, .ptr 0 2 0), (9, .val (.int .i64 aoff1)), (10, .val (.int .i64 (IntKind.wrap .i64 (b4 - aoff1))))], [bx 43 [(2, some [.val (.int .i64 aoff1), .val (.list ashin2 ashi3)])]], KK⟩)

theorem r05_UTC_J2_eq (lb : Bool) (n : Nat) (aoff1 : Int) (ashin2 : Bool) (ashi3 : List (List CV)) (b4 : Int) (i38 : Int) (i39 : Int) :
  r05_UTC_J2 lb n aoff1 ashin2 ashi3 b4 i38 i39 =
 some (.int .i64 i38) := (hold_eq _).trans (by kernel_rfl)

theorem r05_UTC_L1_succ (lb : Bool) (n k27 : Nat) (aoff1 : Int) (ashin2 : Bool) (ashi3 : List (List CV)) (b4 : Int) (i15 : Int) (i17 : Int) :
  r05_UTC_L1 lb n (k27 + 1) aoff1 ashin2 ashi3 b4 i15 i17 =
 bif (decide (i17 < (ashi3.length : Int))) then
 (optO (atL ashi3 i17) fun c28 =>
 chkO (c28.length == 2) (
 optO (c28[0]?) fun x29 =>
 optO (CV.asI .i64 x29) fun i30 =>
 bif (decide (i15 < i30)) then
 (some (.int .i64 i15))
 else
 (optO (atL ashi3 i17) fun c31 =>
 chkO (c31.length == 2) (
 optO (c31[0]?) fun x33 =>
 optO (atL ashi3 i17) fun c34 =>
 chkO (c34.length == 2) (
 optO (c34[1]?) fun x35 =>
 optO (CV.asI .i64 x35) fun i36 =>
 optO (CV.asI .i64 x33) fun i37 =>
 r05_UTC_L1 lb n k27 aoff1 ashin2 ashi3 b4 (if (IntKind.wrap .i64 (b4 - i36)) > i37 then (IntKind.wrap .i64 (b4 - i36)) else i37) (IntKind.wrap .i64 (i17 + 1)))))))
 else
 (r05_UTC_J2 lb n aoff1 ashin2 ashi3 b4 i15 i17) := (hold_eq _).trans (by kernel_rfl)

theorem r05_UTC_L1_zero (lb : Bool) (n : Nat) (aoff1 : Int) (ashin2 : Bool) (ashi3 : List (List CV)) (b4 : Int) (i15 : Int) (i17 : Int) :
  r05_UTC_L1 lb n 0 aoff1 ashin2 ashi3 b4 i15 i17 =
 none := (hold_eq _).trans (by kernel_rfl)

theorem r05_UTC_eq (lb : Bool) (n : Nat) (aoff1 : Int) (ashin2 : Bool) (ashi3 : List (List CV)) (b4 : Int) :
  top lb n F_r05_UTC [.agg [.int .i64 aoff1, .list ashin2 ashi3], .int .i64 b4] =
 r05_UTC_L1 lb n n aoff1 ashin2 ashi3 b4 (IntKind.wrap .i64 (b4 - aoff1)) 0 := by kernel_rfl

/-! airline/flight.times -/
theorem flight_times_eq (lb : Bool) (n : Nat) (aairn1 : Bool) (aair2 : List (List CV)) (adisn3 : Bool) (adis4 : List (List CV)) (bfro5 : List UInt8) (bto6 : List UInt8) (bdep7 : Int) (barr9 : Int) (bequ10 : List UInt8) (c11 : Int) :
  top lb n F_flight_times [.agg [.list aairn1 aair2, .list adisn3 adis4], .agg [.str bfro5, .str bto6, .int .i64 bdep7, .int .i64 barr9, .str bequ10], .int .i64 c11] =
 optO (C lb n F_places_Find [.agg [.list aairn1 aair2, .list adisn3 adis4], .str bfro5]) fun r12 =>
 optO (CV.asT r12) fun t13 =>
 optO (t13[0]?) fun x14 =>
 optO (CV.asT r12) fun t15 =>
 optO (t15[1]?) fun x17 =>
 optO (CV.asA x14) fun c18 =>
 chkO (c18.length == 5) (
 optO (c18[0]?) fun x19 =>
 optO (c18[1]?) fun x20 =>
 optO (c18[2]?) fun x21 =>
 optO (c18[3]?) fun x22 =>
 optO (c18[4]?) fun x23 =>
 optO (C lb n F_places_Find [.agg [.list aairn1 aair2, .list adisn3 adis4], .str bto6]) fun r24 =>
 optO (CV.asT r24) fun t25 =>
 optO (t25[0]?) fun x26 =>
 optO (CV.asT r24) fun t27 =>
 optO (t27[1]?) fun x28 =>
 optO (CV.asA x26) fun c29 =>
 chkO (c29.length == 5) (
 optO (c29[0]?) fun x30 =>
 optO (c29[1]?) fun x31 =>
 optO (c29[2]?) fun x33 =>
 optO (c29[3]?) fun x34 =>
 optO (c29[4]?) fun x35 =>
 optO (C lb n F_zone_UTC [.agg [x22, x23], .int .i64 (IntKind.wrap .i64 ((IntKind.wrap .i64 (c11 * 1440)) + bdep7))]) fun r36 =>
 optO (C lb n F_zone_UTC [.agg [x34, x35], .int .i64 (IntKind.wrap .i64 ((IntKind.wrap .i64 (c11 * 1440)) + barr9))]) fun r37 =>
 some (.tup [r36, r37]))) := by kernel_rfl

/-! airline/airlineref07.utc -/
theorem r07_utc_eq (lb : Bool) (n : Nat) (aairn1 : Bool) (aair2 : List (List CV)) (adisn3 : Bool) (adis4 : List (List CV)) (b5 : List UInt8) (c6 : Int) (d7 : Int) :
  top lb n F_r07_utc [.agg [.list aairn1 aair2, .list adisn3 adis4], .str b5, .int .i64 c6, .int .i64 d7] =
 optO (C lb n F_r06_Find [.agg [.list aairn1 aair2, .list adisn3 adis4], .str b5]) fun r9 =>
 optO (CV.asT r9) fun t10 =>
 optO (t10[0]?) fun x11 =>
 optO (CV.asT r9) fun t12 =>
 optO (t12[1]?) fun x13 =>
 optO (CV.asA x11) fun c14 =>
 chkO (c14.length == 5) (
 optO (c14[0]?) fun x15 =>
 optO (c14[1]?) fun x17 =>
 optO (c14[2]?) fun x18 =>
 optO (c14[3]?) fun x19 =>
 optO (c14[4]?) fun x20 =>
 optO (C lb n F_r05_UTC [.agg [x19, x20], .int .i64 (IntKind.wrap .i64 ((IntKind.wrap .i64 (c6 * 1440)) + d7))]) fun r21 =>
 some (r21)) := by kernel_rfl

/-! airline/period.Check -/
theorem period_Check_eq (lb : Bool) (n : Nat) (afro1 : Int) (ato2 : Int) (aday3 : Int) :
  top lb n F_period_Check [.agg [.int .i64 afro1, .int .i64 ato2, .int .i64 aday3]] =
 bif (decide (afro1 < 0)) then
 (some (.int .i64 12))
 else
 (bif (decide (ato2 < afro1)) then
 (some (.int .i64 12))
 else
 (bif (decide (ato2 ≥ 36525)) then
 (some (.int .i64 12))
 else
 (bif (decide ((IntKind.wrap .i64 (ato2 - afro1)) ≥ 800)) then
 (some (.int .i64 4))
 else
 (bif (decide (aday3 < 1)) then
 (some (.int .i64 2))
 else
 (bif (decide (aday3 > 127)) then
 (some (.int .i64 2))
 else
 (some (.int .i64 0))))))) := by kernel_rfl

/-! airline/airlineref04.Check -/
theorem r04_Check_eq (lb : Bool) (n : Nat) (afro1 : Int) (ato2 : Int) (aday3 : Int) :
  top lb n F_r04_Check [.agg [.int .i64 afro1, .int .i64 ato2, .int .i64 aday3]] =
 bif (decide (afro1 < 0)) then
 (some (.int .i64 12))
 else
 (bif (decide (afro1 > ato2)) then
 (some (.int .i64 12))
 else
 (bif (decide (ato2 ≥ 36525)) then
 (some (.int .i64 12))
 else
 (bif (decide ((IntKind.wrap .i64 (ato2 - afro1)) ≥ 800)) then
 (some (.int .i64 4))
 else
 (bif (decide (aday3 < 1)) then
 (some (.int .i64 2))
 else
 (bif (decide (aday3 > 127)) then
 (some (.int .i64 2))
 else
 (some (.int .i64 0))))))) := by kernel_rfl

/-! airline/calendar.Weekday -/
theorem calendar_Weekday_eq (lb : Bool) (n : Nat) (a1 : Int) :
  top lb n F_calendar_Weekday [.int .i64 a1] =
 some (.int .i64 (Int.tmod (IntKind.wrap .i64 ((Int.tmod a1 7) + 12)) 7)) := by kernel_rfl

/-! airline/airlineref03.Weekday -/
theorem r03_Weekday_eq (lb : Bool) (n : Nat) (a1 : Int) :
  top lb n F_r03_Weekday [.int .i64 a1] =
 some (.int .i64 (Int.tmod (IntKind.wrap .i64 ((Int.tmod a1 7) + 12)) 7)) := by kernel_rfl

/-! airline/period.on -/
theorem period_on_eq (lb : Bool) (n : Nat) (a1 : Int) (b2 : Int) :
  top lb n F_period_on [.int .i64 a1, .int .i64 b2] =
 optO (C lb n F_calendar_Weekday [.int .i64 b2]) fun r3 =>
 optO (CV.asI .i64 r3) fun i4 =>
 chkO (decide (0 ≤ i4)) (
 some (.bool ((IntKind.wrap .i64 ((BitVec.ofInt 64 (Int.fdiv a1 (2 ^ (min (i4).toNat 64))) &&& BitVec.ofInt 64 1).toNat)) == 1))) := by kernel_rfl

/-! airline/airlineref04.bit -/
noncomputable def r04_bit_L1 (lb : Bool) (n : Nat) (k9 : Nat) (a1 : Int) (i4 : Int) (i5 : Int) : Option CV :=
  hold (loopC (E0 lb n 0 994) 0 (loopTemps (sub (B F_r04_bit) [1, 1, 0, 1, 0, 0]) ++ []) [] (sub (B F_r04_bit) [1, 1, 0, 1, 0, 0]) (blockK 0 (seqK (E0 lb n 0 997) (sub (B F_r04_bit) [1, 1, 0]) (sub (B F_r04_bit) [1, 1, 1]) (retK Tryd.prog (R F_r04_bit) 0 (outK (tightF Tryd.prog F_r04_bit))))) k9 ⟨fr 14 [(0, .val (.int .i64 a1)), (2, .val (.int .i64 0)), (3, .val (.int .i64 i4)), (4, .val (.int .i64 i5))], [bx 14 []], KK⟩)

noncomputable def r04_bit_J2 (lb : Bool) (n : Nat) (a1 : Int) (i12 : Int) (i13 : Int) : Option CV :=
  hold (E0 lb n 0 997 (sub (B F_r04_bit) [1, 1, 1]) (retK Tryd.prog (R F_r04_bit) 0 (outK (tightF Tryd.prog F_r04_bit))) ⟨fr 14 [(0, .val (.int .i64 a1)), (2, .val (.int .i64 0)), (3, .val (.int .i64 i12)), (4, .val (.int .i64 i13))], [bx 14 []], KK⟩)

theorem r04_bit_J2_eq (lb : Bool) (n : Nat) (a1 : Int) (i12 : Int) (i13 : Int) :
  r04_bit_J2 lb n a1 i12 i13 =
 some (.int .i64 i12) := (hold_eq _).trans (by kernel_rfl)

theorem r04_bit_L1_succ (lb : Bool) (n k9 : Nat) (a1 : Int) (i4 : Int) (i5 : Int) :
  r04_bit_L1 lb n (k9 + 1) a1 i4 i5 =
 optO (C lb n F_r03_Weekday [.int .i64 a1]) fun r10 =>
 optO (CV.asI .i64 r10) fun i11 =>
 bif (decide (i5 < i11)) then
 (r04_bit_L1 lb n k9 a1 (IntKind.wrap .i64 (2 * i4)) (IntKind.wrap .i64 (i5 + 1)))
 else
 (r04_bit_J2 lb n a1 i4 i5) := (hold_eq _).trans (by kernel_rfl)

theorem r04_bit_L1_zero (lb : Bool) (n : Nat) (a1 : Int) (i4 : Int) (i5 : Int) :
  r04_bit_L1 lb n 0 a1 i4 i5 =
 none := (hold_eq _).trans (by kernel_rfl)

theorem r04_bit_eq (lb : Bool) (n : Nat) (a1 : Int) :
  top lb n F_r04_bit [.int .i64 a1] =
 r04_bit_L1 lb n n a1 1 0 := by kernel_rfl

/-! airline/period.Has -/
theorem period_Has_eq (lb : Bool) (n : Nat) (afro1 : Int) (ato2 : Int) (aday3 : Int) (b4 : Int) :
  top lb n F_period_Has [.agg [.int .i64 afro1, .int .i64 ato2, .int .i64 aday3], .int .i64 b4] =
 optO (C lb n F_period_Check [.agg [.int .i64 afro1, .int .i64 ato2, .int .i64 aday3]]) fun r5 =>
 optO (CV.asI .i64 r5) fun i6 =>
 bif (i6 == 0) then
 (bif (decide (b4 ≥ afro1)) then
 (bif (decide (b4 ≤ ato2)) then
 (optO (C lb n F_period_on [.int .i64 aday3, .int .i64 b4]) fun r7 =>
 some (r7))
 else
 (some (.bool false)))
 else
 (some (.bool false)))
 else
 (some (.bool false)) := by kernel_rfl

/-! airline/airlineref04.Has -/
theorem r04_Has_eq (lb : Bool) (n : Nat) (afro1 : Int) (ato2 : Int) (aday3 : Int) (b4 : Int) :
  top lb n F_r04_Has [.agg [.int .i64 afro1, .int .i64 ato2, .int .i64 aday3], .int .i64 b4] =
 optO (C lb n F_r04_Check [.agg [.int .i64 afro1, .int .i64 ato2, .int .i64 aday3]]) fun r5 =>
 optO (CV.asI .i64 r5) fun i6 =>
 bif (i6 == 0) then
 (bif (decide (b4 ≥ afro1)) then
 (bif (decide (b4 ≤ ato2)) then
 (optO (C lb n F_r04_bit [.int .i64 b4]) fun r7 =>
 optO (CV.asI .i64 r7) fun i9 =>
 chkO (i9 != 0) (
 some (.bool ((Int.tmod (IntKind.wrap .i64 (Int.tdiv aday3 i9)) 2) == 1))))
 else
 (some (.bool false)))
 else
 (some (.bool false)))
 else
 (some (.bool false)) := by kernel_rfl

/-! airline/airlineref04.Days -/
noncomputable def r04_Days_L1 (lb : Bool) (n : Nat) (k20 : Nat) (afro1 : Int) (ato2 : Int) (aday3 : Int) (b12 : Bool) (l13 : List (List CV)) (i14 : Int) : Option CV :=
  hold (loopC (E0 lb n 0 994) 0 (loopTemps (sub (B F_r04_Days) [1, 1, 0, 1, 0, 0]) ++ []) [] (sub (B F_r04_Days) [1, 1, 0, 1, 0, 0]) (blockK 0 (seqK (E0 lb n 0 997) (sub (B F_r04_Days) [1, 1, 0]) (sub (B F_r04_Days) [1, 1, 1]) (retK Tryd.prog (R F_r04_Days) 0 (outK (tightF Tryd.prog F_r04_Days))))) k20 ⟨fr 26 [(0, .val (.agg [.int .i64 afro1, .int .i64 ato2, .int .i64 aday3])), (1, .ptr 0 1 0), (2, .lst true true 3 []), (3, .lst true b12 3 l13), (4, .val (.int .i64 i14)), (5, .ptr 0 1 0), (6, .val (.int .i64 afro1))], [bx 26 [(1, some [.val (.int .i64 afro1), .val (.int .i64 ato2), .val (.int .i64 aday3)])]], KK⟩)

noncomputable def r04_Days_J2 (lb : Bool) (n : Nat) (afro1 : Int) (ato2 : Int) (aday3 : Int) (b25 : Bool) (l26 : List (List CV)) (i27 : Int) : Option CV :=
  hold (E0 lb n 0 997 (sub (B F_r04_Days) [1, 1, 1]) (retK Tryd.prog (R F_r04_Days) 0 (outK (tightF Tryd.prog F_r04_Days))) ⟨fr 26 [(0, .val (.agg [.int .i64 afro1, .int .i64 ato2, .int .i64 aday3])), (1, .ptr 0 1 0), (2, .lst true true 3 []), (3, .lst true b25 3 l26), (4, .val (.int .i64 i27))], [bx 26 [(1, some [.val (.int .i64 afro1), .val (.int .i64 ato2), .val (.int .i64 aday3)])]], KK⟩)

theorem r04_Days_J2_eq (lb : Bool) (n : Nat) (afro1 : Int) (ato2 : Int) (aday3 : Int) (b25 : Bool) (l26 : List (List CV)) (i27 : Int) :
  r04_Days_J2 lb n afro1 ato2 aday3 b25 l26 i27 =
 some (.list b25 l26) := (hold_eq _).trans (by kernel_rfl)

theorem r04_Days_L1_succ (lb : Bool) (n k20 : Nat) (afro1 : Int) (ato2 : Int) (aday3 : Int) (b12 : Bool) (l13 : List (List CV)) (i14 : Int) :
  r04_Days_L1 lb n (k20 + 1) afro1 ato2 aday3 b12 l13 i14 =
 optO (C lb n F_r04_Check [.agg [.int .i64 afro1, .int .i64 ato2, .int .i64 aday3]]) fun r21 =>
 optO (CV.asI .i64 r21) fun i22 =>
 bif (i22 == 0) then
 (bif (decide (i14 ≤ ato2)) then
 (optO (C lb n F_r04_Has [.agg [.int .i64 afro1, .int .i64 ato2, .int .i64 aday3], .int .i64 i14]) fun r23 =>
 optO (CV.asB r23) fun b24 =>
 bif b24 then
 (chkO (room (l13.length + 1) 8) (
 r04_Days_L1 lb n k20 afro1 ato2 aday3 (b12 && false) (l13 ++ [[CV.int .i64 i14]]) (IntKind.wrap .i64 (i14 + 1))))
 else
 (r04_Days_L1 lb n k20 afro1 ato2 aday3 b12 l13 (IntKind.wrap .i64 (i14 + 1))))
 else
 (r04_Days_J2 lb n afro1 ato2 aday3 b12 l13 i14))
 else
 (r04_Days_J2 lb n afro1 ato2 aday3 b12 l13 i14) := (hold_eq _).trans (by kernel_rfl)

theorem r04_Days_L1_zero (lb : Bool) (n : Nat) (afro1 : Int) (ato2 : Int) (aday3 : Int) (b12 : Bool) (l13 : List (List CV)) (i14 : Int) :
  r04_Days_L1 lb n 0 afro1 ato2 aday3 b12 l13 i14 =
 none := (hold_eq _).trans (by kernel_rfl)

theorem r04_Days_eq (lb : Bool) (n : Nat) (afro1 : Int) (ato2 : Int) (aday3 : Int) :
  top lb n F_r04_Days [.agg [.int .i64 afro1, .int .i64 ato2, .int .i64 aday3]] =
 r04_Days_L1 lb n n afro1 ato2 aday3 true [] afro1 := by kernel_rfl

/-! airline/flight.Legs -/
noncomputable def flight_Legs_L1 (lb : Bool) (n : Nat) (k42 : Nat) (aairn1 : Bool) (aair2 : List (List CV)) (adisn3 : Bool) (adis4 : List (List CV)) (bcar5 : List UInt8) (bnum6 : Int) (bperfro7 : Int) (bperto9 : Int) (bperday10 : Int) (blegn11 : Bool) (bleg12 : List (List CV)) (c13 : Int) (l28 : List (List CV)) (i29 : Int) : Option CV :=
  hold (loopC (E0 lb n 0 993) 0 (loopTemps (sub (B F_flight_Legs) [1, 1, 1, 0, 1, 0, 0]) ++ [11, 12]) [10] (sub (B F_flight_Legs) [1, 1, 1, 0, 1, 0, 0]) (blockK 0 (seqK (E0 lb n 0 996) (sub (B F_flight_Legs) [1, 1, 1, 0]) (sub (B F_flight_Legs) [1, 1, 1, 1]) (retK Tryd.prog (R F_flight_Legs) 0 (outK (tightF Tryd.prog F_flight_Legs))))) k42 ⟨fr 55 [(0, .val (.agg [.list aairn1 aair2, .list adisn3 adis4])), (1, .val (.agg [.str bcar5, .int .i64 bnum6, .int .i64 bperfro7, .int .i64 bperto9, .int .i64 bperday10, .list blegn11 bleg12])), (2, .val (.int .i64 c13)), (3, .ptr 0 3 0), (4, .ptr 0 4 0), (6, .lst true true 41 []), (7, .val (.int .i64 0)), (8, .lst true false 41 l28), (18, .ptr 0 4 5), (19, .val (.list blegn11 bleg12)), (20, .val (.int .i64 (bleg12.length : Int))), (21, .val (.list false [])), (22, .ptr 0 4 5), (23, .val (.list blegn11 bleg12)), (24, .val (.int .i64 (bleg12.length : Int))), (25, .val (.int .i64 i29))], [bx 55 [(3, some [.val (.list aairn1 aair2), .val (.list adisn3 adis4)]), (4, some [.val (.str bcar5), .val (.int .i64 bnum6), .val (.int .i64 bperfro7), .val (.int .i64 bperto9), .val (.int .i64 bperday10), .val (.list blegn11 bleg12)])]], KK⟩)

noncomputable def flight_Legs_J2 (lb : Bool) (n : Nat) (aairn1 : Bool) (aair2 : List (List CV)) (adisn3 : Bool) (adis4 : List (List CV)) (bcar5 : List UInt8) (bnum6 : Int) (bperfro7 : Int) (bperto9 : Int) (bperday10 : Int) (blegn11 : Bool) (bleg12 : List (List CV)) (c13 : Int) (b54 : Bool) (l55 : List (List CV)) : Option CV :=
  hold (E0 lb n 0 996 (sub (B F_flight_Legs) [1, 1, 1, 1]) (retK Tryd.prog (R F_flight_Legs) 0 (outK (tightF Tryd.prog F_flight_Legs))) ⟨fr 55 [(0, .val (.agg [.list aairn1 aair2, .list adisn3 adis4])), (1, .val (.agg [.str bcar5, .int .i64 bnum6, .int .i64 bperfro7, .int .i64 bperto9, .int .i64 bperday10, .list blegn11 bleg12])), (2, .val (.int .i64 c13)), (3, .ptr 0 3 0), (4, .ptr 0 4 0), (6, .lst true true 41 []), (7, .val (.int .i64 0)), (8, .lst true b54 41 l55), (18, .ptr 0 4 5), (19, .val (.list blegn11 bleg12)), (20, .val (.int .i64 (bleg12.length : Int))), (21, .val (.list false []))], [bx 55 [(3, some [.val (.list aairn1 aair2), .val (.list adisn3 adis4)]), (4, some [.val (.str bcar5), .val (.int .i64 bnum6), .val (.int .i64 bperfro7), .val (.int .i64 bperto9), .val (.int .i64 bperday10), .val (.list blegn11 bleg12)])]], KK⟩)

theorem flight_Legs_J2_eq (lb : Bool) (n : Nat) (aairn1 : Bool) (aair2 : List (List CV)) (adisn3 : Bool) (adis4 : List (List CV)) (bcar5 : List UInt8) (bnum6 : Int) (bperfro7 : Int) (bperto9 : Int) (bperday10 : Int) (blegn11 : Bool) (bleg12 : List (List CV)) (c13 : Int) (b54 : Bool) (l55 : List (List CV)) :
  flight_Legs_J2 lb n aairn1 aair2 adisn3 adis4 bcar5 bnum6 bperfro7 bperto9 bperday10 blegn11 bleg12 c13 b54 l55 =
 some (.tup [.list b54 l55, .int .i64 0]) := (hold_eq _).trans (by kernel_rfl)

theorem flight_Legs_L1_succ (lb : Bool) (n k42 : Nat) (aairn1 : Bool) (aair2 : List (List CV)) (adisn3 : Bool) (adis4 : List (List CV)) (bcar5 : List UInt8) (bnum6 : Int) (bperfro7 : Int) (bperto9 : Int) (bperday10 : Int) (blegn11 : Bool) (bleg12 : List (List CV)) (c13 : Int) (l28 : List (List CV)) (i29 : Int) :
  flight_Legs_L1 lb n (k42 + 1) aairn1 aair2 adisn3 adis4 bcar5 bnum6 bperfro7 bperto9 bperday10 blegn11 bleg12 c13 l28 i29 =
 bif (decide (i29 < (bleg12.length : Int))) then
 (optO (atL bleg12 i29) fun c43 =>
 chkO (c43.length == 5) (
 optO (c43[0]?) fun x44 =>
 optO (c43[1]?) fun x45 =>
 optO (c43[2]?) fun x46 =>
 optO (c43[3]?) fun x47 =>
 optO (c43[4]?) fun x48 =>
 optO (C lb n F_flight_times [.agg [.list aairn1 aair2, .list adisn3 adis4], .agg [x44, x45, x46, x47, x48], .int .i64 c13]) fun r49 =>
 optO (CV.asT r49) fun t50 =>
 optO (t50[0]?) fun x51 =>
 optO (CV.asT r49) fun t52 =>
 optO (t52[1]?) fun x53 =>
 chkO (CV.isCell x44) (
 chkO (CV.isCell x45) (
 chkO (CV.isCell x51) (
 chkO (CV.isCell x53) (
 chkO (CV.isCell x48) (
 chkO (room (l28.length + 1) 96) (
 flight_Legs_L1 lb n k42 aairn1 aair2 adisn3 adis4 bcar5 bnum6 bperfro7 bperto9 bperday10 blegn11 bleg12 c13 (l28 ++ [[CV.str bcar5, CV.int .i64 bnum6, CV.int .i64 c13, x44, x45, x51, x53, x48]]) (IntKind.wrap .i64 (i29 + 1))))))))))
 else
 (flight_Legs_J2 lb n aairn1 aair2 adisn3 adis4 bcar5 bnum6 bperfro7 bperto9 bperday10 blegn11 bleg12 c13 false l28) := (hold_eq _).trans (by kernel_rfl)

theorem flight_Legs_L1_zero (lb : Bool) (n : Nat) (aairn1 : Bool) (aair2 : List (List CV)) (adisn3 : Bool) (adis4 : List (List CV)) (bcar5 : List UInt8) (bnum6 : Int) (bperfro7 : Int) (bperto9 : Int) (bperday10 : Int) (blegn11 : Bool) (bleg12 : List (List CV)) (c13 : Int) (l28 : List (List CV)) (i29 : Int) :
  flight_Legs_L1 lb n 0 aairn1 aair2 adisn3 adis4 bcar5 bnum6 bperfro7 bperto9 bperday10 blegn11 bleg12 c13 l28 i29 =
 none := (hold_eq _).trans (by kernel_rfl)

theorem flight_Legs_eq (lb : Bool) (n : Nat) (aairn1 : Bool) (aair2 : List (List CV)) (adisn3 : Bool) (adis4 : List (List CV)) (bcar5 : List UInt8) (bnum6 : Int) (bperfro7 : Int) (bperto9 : Int) (bperday10 : Int) (blegn11 : Bool) (bleg12 : List (List CV)) (c13 : Int) :
  top lb n F_flight_Legs [.agg [.list aairn1 aair2, .list adisn3 adis4], .agg [.str bcar5, .int .i64 bnum6, .int .i64 bperfro7, .int .i64 bperto9, .int .i64 bperday10, .list blegn11 bleg12], .int .i64 c13] =
 optO (C lb n F_period_Has [.agg [.int .i64 bperfro7, .int .i64 bperto9, .int .i64 bperday10], .int .i64 c13]) fun r14 =>
 optO (CV.asB r14) fun b15 =>
 bif (!b15) then
 (some (.tup [.list true [], .int .i64 12]))
 else
 (chkO (decide (0 ≤ (0 : Int)) && decide ((0 : Int) ≤ ((bleg12.length : Int) : Int)) && decide (((bleg12.length : Int) : Int) * 96 ≤ 140737488355328) && decide (((bleg12.length : Int) : Int) ≤ 140737488355328)) (
 flight_Legs_L1 lb n n aairn1 aair2 adisn3 adis4 bcar5 bnum6 bperfro7 bperto9 bperday10 blegn11 bleg12 c13 [] 0)) := by kernel_rfl

/-! airline/airlineref07.legs -/
noncomputable def r07_legs_L1 (lb : Bool) (n : Nat) (k35 : Nat) (aairn1 : Bool) (aair2 : List (List CV)) (adisn3 : Bool) (adis4 : List (List CV)) (bcar5 : List UInt8) (bnum6 : Int) (bperfro7 : Int) (bperto9 : Int) (bperday10 : Int) (blegn11 : Bool) (bleg12 : List (List CV)) (c13 : Int) (b23 : Bool) (l24 : List (List CV)) (i25 : Int) : Option CV :=
  hold (loopC (E0 lb n 0 994) 0 (loopTemps (sub (B F_r07_legs) [1, 1, 0, 1, 0, 0]) ++ []) [9] (sub (B F_r07_legs) [1, 1, 0, 1, 0, 0]) (blockK 0 (seqK (E0 lb n 0 997) (sub (B F_r07_legs) [1, 1, 0]) (sub (B F_r07_legs) [1, 1, 1]) (retK Tryd.prog (R F_r07_legs) 0 (outK (tightF Tryd.prog F_r07_legs))))) k35 ⟨fr 52 [(0, .val (.agg [.list aairn1 aair2, .list adisn3 adis4])), (1, .val (.agg [.str bcar5, .int .i64 bnum6, .int .i64 bperfro7, .int .i64 bperto9, .int .i64 bperday10, .list blegn11 bleg12])), (2, .val (.int .i64 c13)), (3, .ptr 0 3 0), (4, .ptr 0 4 0), (6, .lst true true 41 []), (7, .lst true b23 41 l24), (8, .val (.int .i64 i25))], [bx 52 [(3, some [.val (.list aairn1 aair2), .val (.list adisn3 adis4)]), (4, some [.val (.str bcar5), .val (.int .i64 bnum6), .val (.int .i64 bperfro7), .val (.int .i64 bperto9), .val (.int .i64 bperday10), .val (.list blegn11 bleg12)])]], KK⟩)

noncomputable def r07_legs_J2 (lb : Bool) (n : Nat) (aairn1 : Bool) (aair2 : List (List CV)) (adisn3 : Bool) (adis4 : List (List CV)) (bcar5 : List UInt8) (bnum6 : Int) (bperfro7 : Int) (bperto9 : Int) (bperday10 : Int) (blegn11 : Bool) (bleg12 : List (List CV)) (c13 : Int) (b44 : Bool) (l45 : List (List CV)) (i46 : Int) : Option CV :=
  hold (E0 lb n 0 997 (sub (B F_r07_legs) [1, 1, 1]) (retK Tryd.prog (R F_r07_legs) 0 (outK (tightF Tryd.prog F_r07_legs))) ⟨fr 52 [(0, .val (.agg [.list aairn1 aair2, .list adisn3 adis4])), (1, .val (.agg [.str bcar5, .int .i64 bnum6, .int .i64 bperfro7, .int .i64 bperto9, .int .i64 bperday10, .list blegn11 bleg12])), (2, .val (.int .i64 c13)), (3, .ptr 0 3 0), (4, .ptr 0 4 0), (6, .lst true true 41 []), (7, .lst true b44 41 l45), (8, .val (.int .i64 i46))], [bx 52 [(3, some [.val (.list aairn1 aair2), .val (.list adisn3 adis4)]), (4, some [.val (.str bcar5), .val (.int .i64 bnum6), .val (.int .i64 bperfro7), .val (.int .i64 bperto9), .val (.int .i64 bperday10), .val (.list blegn11 bleg12)])]], KK⟩)

theorem r07_legs_J2_eq (lb : Bool) (n : Nat) (aairn1 : Bool) (aair2 : List (List CV)) (adisn3 : Bool) (adis4 : List (List CV)) (bcar5 : List UInt8) (bnum6 : Int) (bperfro7 : Int) (bperto9 : Int) (bperday10 : Int) (blegn11 : Bool) (bleg12 : List (List CV)) (c13 : Int) (b44 : Bool) (l45 : List (List CV)) (i46 : Int) :
  r07_legs_J2 lb n aairn1 aair2 adisn3 adis4 bcar5 bnum6 bperfro7 bperto9 bperday10 blegn11 bleg12 c13 b44 l45 i46 =
 some (.list b44 l45) := (hold_eq _).trans (by kernel_rfl)

theorem r07_legs_L1_succ (lb : Bool) (n k35 : Nat) (aairn1 : Bool) (aair2 : List (List CV)) (adisn3 : Bool) (adis4 : List (List CV)) (bcar5 : List UInt8) (bnum6 : Int) (bperfro7 : Int) (bperto9 : Int) (bperday10 : Int) (blegn11 : Bool) (bleg12 : List (List CV)) (c13 : Int) (b23 : Bool) (l24 : List (List CV)) (i25 : Int) :
  r07_legs_L1 lb n (k35 + 1) aairn1 aair2 adisn3 adis4 bcar5 bnum6 bperfro7 bperto9 bperday10 blegn11 bleg12 c13 b23 l24 i25 =
 bif (decide (i25 < (bleg12.length : Int))) then
 (optO (atL bleg12 i25) fun c36 =>
 chkO (c36.length == 5) (
 optO (c36[0]?) fun x37 =>
 optO (c36[1]?) fun x38 =>
 optO (c36[2]?) fun x39 =>
 optO (c36[3]?) fun x40 =>
 optO (c36[4]?) fun x41 =>
 optO (C lb n F_r07_utc [.agg [.list aairn1 aair2, .list adisn3 adis4], x37, .int .i64 c13, x39]) fun r42 =>
 optO (C lb n F_r07_utc [.agg [.list aairn1 aair2, .list adisn3 adis4], x38, .int .i64 c13, x40]) fun r43 =>
 chkO (CV.isCell x37) (
 chkO (CV.isCell x38) (
 chkO (CV.isCell r42) (
 chkO (CV.isCell r43) (
 chkO (CV.isCell x41) (
 chkO (room (l24.length + 1) 96) (
 r07_legs_L1 lb n k35 aairn1 aair2 adisn3 adis4 bcar5 bnum6 bperfro7 bperto9 bperday10 blegn11 bleg12 c13 (b23 && false) (l24 ++ [[CV.str bcar5, CV.int .i64 bnum6, CV.int .i64 c13, x37, x38, r42, r43, x41]]) (IntKind.wrap .i64 (i25 + 1))))))))))
 else
 (r07_legs_J2 lb n aairn1 aair2 adisn3 adis4 bcar5 bnum6 bperfro7 bperto9 bperday10 blegn11 bleg12 c13 b23 l24 i25) := (hold_eq _).trans (by kernel_rfl)

theorem r07_legs_L1_zero (lb : Bool) (n : Nat) (aairn1 : Bool) (aair2 : List (List CV)) (adisn3 : Bool) (adis4 : List (List CV)) (bcar5 : List UInt8) (bnum6 : Int) (bperfro7 : Int) (bperto9 : Int) (bperday10 : Int) (blegn11 : Bool) (bleg12 : List (List CV)) (c13 : Int) (b23 : Bool) (l24 : List (List CV)) (i25 : Int) :
  r07_legs_L1 lb n 0 aairn1 aair2 adisn3 adis4 bcar5 bnum6 bperfro7 bperto9 bperday10 blegn11 bleg12 c13 b23 l24 i25 =
 none := (hold_eq _).trans (by kernel_rfl)

theorem r07_legs_eq (lb : Bool) (n : Nat) (aairn1 : Bool) (aair2 : List (List CV)) (adisn3 : Bool) (adis4 : List (List CV)) (bcar5 : List UInt8) (bnum6 : Int) (bperfro7 : Int) (bperto9 : Int) (bperday10 : Int) (blegn11 : Bool) (bleg12 : List (List CV)) (c13 : Int) :
  top lb n F_r07_legs [.agg [.list aairn1 aair2, .list adisn3 adis4], .agg [.str bcar5, .int .i64 bnum6, .int .i64 bperfro7, .int .i64 bperto9, .int .i64 bperday10, .list blegn11 bleg12], .int .i64 c13] =
 r07_legs_L1 lb n n aairn1 aair2 adisn3 adis4 bcar5 bnum6 bperfro7 bperto9 bperday10 blegn11 bleg12 c13 true [] 0 := by kernel_rfl

/-! airline/airlineref07.ordered -/
noncomputable def r07_ordered_L1 (lb : Bool) (n : Nat) (k24 : Nat) (an1 : Bool) (a2 : List (List CV)) (i10 : Int) : Option CV :=
  hold (loopC (E0 lb n 0 995) 0 (loopTemps (sub (B F_r07_ordered) [1, 0, 1, 0, 0]) ++ []) [] (sub (B F_r07_ordered) [1, 0, 1, 0, 0]) (blockK 0 (seqK (E0 lb n 0 998) (sub (B F_r07_ordered) [1, 0]) (sub (B F_r07_ordered) [1, 1]) (retK Tryd.prog (R F_r07_ordered) 0 (outK (tightF Tryd.prog F_r07_ordered))))) k24 ⟨fr 39 [(0, .val (.list an1 a2)), (2, .val (.bool false)), (3, .val (.int .i64 i10))], [bx 39 []], KK⟩)

noncomputable def r07_ordered_J2 (lb : Bool) (n : Nat) (an1 : Bool) (a2 : List (List CV)) (i38 : Int) : Option CV :=
  hold (E0 lb n 0 998 (sub (B F_r07_ordered) [1, 1]) (retK Tryd.prog (R F_r07_ordered) 0 (outK (tightF Tryd.prog F_r07_ordered))) ⟨fr 39 [(0, .val (.list an1 a2)), (2, .val (.bool false)), (3, .val (.int .i64 i38))], [bx 39 []], KK⟩)

theorem r07_ordered_J2_eq (lb : Bool) (n : Nat) (an1 : Bool) (a2 : List (List CV)) (i38 : Int) :
  r07_ordered_J2 lb n an1 a2 i38 =
 some (.bool true) := (hold_eq _).trans (by kernel_rfl)

theorem r07_ordered_L1_succ (lb : Bool) (n k24 : Nat) (an1 : Bool) (a2 : List (List CV)) (i10 : Int) :
  r07_ordered_L1 lb n (k24 + 1) an1 a2 i10 =
 bif (decide (i10 < (a2.length : Int))) then
 (optO (atL a2 i10) fun c25 =>
 chkO (c25.length == 8) (
 optO (c25[5]?) fun x26 =>
 optO (atL a2 i10) fun c27 =>
 chkO (c27.length == 8) (
 optO (c27[6]?) fun x28 =>
 optO (CV.asI .i64 x26) fun i29 =>
 optO (CV.asI .i64 x28) fun i30 =>
 bif (decide (i29 ≥ i30)) then
 (some (.bool false))
 else
 (bif (decide (i10 > 0)) then
 (optO (atL a2 i10) fun c31 =>
 chkO (c31.length == 8) (
 optO (c31[5]?) fun x33 =>
 optO (atL a2 (IntKind.wrap .i64 (i10 - 1))) fun c34 =>
 chkO (c34.length == 8) (
 optO (c34[6]?) fun x35 =>
 optO (CV.asI .i64 x33) fun i36 =>
 optO (CV.asI .i64 x35) fun i37 =>
 bif (decide (i36 < i37)) then
 (some (.bool false))
 else
 (r07_ordered_L1 lb n k24 an1 a2 (IntKind.wrap .i64 (i10 + 1))))))
 else
 (r07_ordered_L1 lb n k24 an1 a2 (IntKind.wrap .i64 (i10 + 1)))))))
 else
 (r07_ordered_J2 lb n an1 a2 i10) := (hold_eq _).trans (by kernel_rfl)

theorem r07_ordered_L1_zero (lb : Bool) (n : Nat) (an1 : Bool) (a2 : List (List CV)) (i10 : Int) :
  r07_ordered_L1 lb n 0 an1 a2 i10 =
 none := (hold_eq _).trans (by kernel_rfl)

theorem r07_ordered_eq (lb : Bool) (n : Nat) (an1 : Bool) (a2 : List (List CV)) :
  top lb n F_r07_ordered [.list an1 a2] =
 r07_ordered_L1 lb n n an1 a2 0 := by kernel_rfl

/-! airline/airlineref07.out -/
theorem r07_out_eq (lb : Bool) (n : Nat) (a1 : Int) :
  top lb n F_r07_out [.int .i64 a1] =
 bif (decide (a1 < (-1440))) then
 (some (.bool true))
 else
 (some (.bool (decide (a1 > 5759)))) := by kernel_rfl

end Go.Proofs
