/- Equations of functions, printed by program. Conditions: none. -/
import Derived.Test.YtdcpdknginpohaaGreatDoorEv
namespace Go.Proofs
open Go.Am
set_option maxRecDepth 100000
set_option linter.unusedVariables false
/-! airline/flight.Parse -/
noncomputable def flight_Parse_L1 (lb : Nat) (n : Nat) (k102 : Nat) (a1 : List UInt8) (x4 : CV) (r2 : CV) (x6 : CV) (c12 : List CV) (x13 : CV) (p38 : Bool × List (List CV)) (l39 : List (List CV)) (x20 : CV) (x34 : CV) (x35 : CV) (x36 : CV) (i103 : Nat) (v70 : CV) (b71 : Bool) (l72 : List (List CV)) : Option CV :=
  hold (rangeC (X0 lb n 1 989) 1 (sub (B F_flight_Parse) [1, 1, 1, 1, 1, 1, 1, 0, 1, 0, 0]) (sub (B F_flight_Parse) [1, 1, 1, 1, 1, 1, 1, 0, 1, 0, 1]) [59] (fr 107 [(0, .val (.str a1)), (2, .ptr 0 2 0), (3, .ptr 0 3 0), (4, .val x4), (5, .ptr 0 5 0), (6, .ptr 0 6 0), (9, .val r2), (10, .val (.str a1)), (11, .val r2), (12, .val x4), (13, .val x6), (28, .val x4), (29, .cptr c12 0), (30, .val x13), (31, .val (.agg [x13, .int .i64 0, .int .i64 0, .int .i64 0, .int .i64 0, .list true []])), (56, .val x4), (57, .val (.list p38.1 ((p38.2.take ((p38.2.length : Int).toNat)).drop 3)))]) KK l39 (rangeK (blockK 0 (seqK (E0 lb n 0 992) (sub (B F_flight_Parse) [1, 1, 1, 1, 1, 1, 1, 0]) (sub (B F_flight_Parse) [1, 1, 1, 1, 1, 1, 1, 1]) (retK Tryz.prog (R F_flight_Parse) 0 (outK (tightF Tryz.prog F_flight_Parse))))) (fr 107 [(0, .val (.str a1)), (2, .ptr 0 2 0), (3, .ptr 0 3 0), (4, .val x4), (5, .ptr 0 5 0), (6, .ptr 0 6 0), (9, .val r2), (10, .val (.str a1)), (11, .val r2), (12, .val x4), (13, .val x6), (28, .val x4), (29, .cptr c12 0), (30, .val x13), (31, .val (.agg [x13, .int .i64 0, .int .i64 0, .int .i64 0, .int .i64 0, .list true []])), (56, .val x4), (57, .val (.list p38.1 ((p38.2.take ((p38.2.length : Int).toNat)).drop 3)))]) KK) k102 i103 [bx 109 [(2, some [.val (.str []), .val (.int .i64 0), .val (.int .i64 0), .val (.int .i64 0), .val (.int .i64 0), .lst true true 94 []]), (3, some [.val (.int .i64 0)]), (5, some [.val v70]), (6, some [.val x13, .val x20, .val x34, .val x35, .val x36, .lst true b71 94 l72])]])

noncomputable def flight_Parse_J2 (lb : Nat) (n : Nat) (a1 : List UInt8) (x4 : CV) (r2 : CV) (x6 : CV) (c12 : List CV) (x13 : CV) (x20 : CV) (x34 : CV) (x35 : CV) (x36 : CV) (v133 : CV) (b134 : Bool) (l135 : List (List CV)) : Option CV :=
  hold (E0 lb n 0 992 (sub (B F_flight_Parse) [1, 1, 1, 1, 1, 1, 1, 1]) (retK Tryz.prog (R F_flight_Parse) 0 (outK (tightF Tryz.prog F_flight_Parse))) ⟨fr 107 [(0, .val (.str a1)), (2, .ptr 0 2 0), (3, .ptr 0 3 0), (4, .val x4), (5, .ptr 0 5 0), (6, .ptr 0 6 0), (9, .val r2), (10, .val (.str a1)), (11, .val r2), (12, .val x4), (13, .val x6), (28, .val x4), (29, .cptr c12 0), (30, .val x13), (31, .val (.agg [x13, .int .i64 0, .int .i64 0, .int .i64 0, .int .i64 0, .list true []]))], [bx 109 [(2, some [.val (.str []), .val (.int .i64 0), .val (.int .i64 0), .val (.int .i64 0), .val (.int .i64 0), .lst true true 94 []]), (3, some [.val (.int .i64 0)]), (5, some [.val v133]), (6, some [.val x13, .val x20, .val x34, .val x35, .val x36, .lst true b134 94 l135])]], KK⟩)

theorem flight_Parse_J2_eq (lb : Nat) (n : Nat) (a1 : List UInt8) (x4 : CV) (r2 : CV) (x6 : CV) (c12 : List CV) (x13 : CV) (x20 : CV) (x34 : CV) (x35 : CV) (x36 : CV) (v133 : CV) (b134 : Bool) (l135 : List (List CV)) :
  flight_Parse_J2 lb n a1 x4 r2 x6 c12 x13 x20 x34 x35 x36 v133 b134 l135 =
 optO (C lb n F_flight_written [.agg [x13, x20, x34, x35, x36, .list b134 l135]]) fun r136 =>
 chkO (CV.isCell r136) (
 optO (CV.asI .i64 r136) fun i137 =>
 bif (i137 != 0) then
 (chkO (CV.isCell r136) (
 some (.tup [.agg [.str [], .int .i64 0, .int .i64 0, .int .i64 0, .int .i64 0, .list true []], r136])))
 else
 (some (.tup [.agg [x13, x20, x34, x35, x36, .list b134 l135], .int .i64 0]))) := (hold_eq _).trans (by kernel_rfl)

theorem flight_Parse_L1_succ (lb : Nat) (n k102 : Nat) (a1 : List UInt8) (x4 : CV) (r2 : CV) (x6 : CV) (c12 : List CV) (x13 : CV) (p38 : Bool × List (List CV)) (l39 : List (List CV)) (x20 : CV) (x34 : CV) (x35 : CV) (x36 : CV) (i103 : Nat) (v70 : CV) (b71 : Bool) (l72 : List (List CV)) :
  flight_Parse_L1 lb n (k102 + 1) a1 x4 r2 x6 c12 x13 p38 l39 x20 x34 x35 x36 i103 v70 b71 l72 =
 bif (decide (i103 < l39.length)) then
 (optO (l39[i103]?) fun x104 =>
 optO (x104.head?) fun c105 =>
 optO (CV.asL c105) fun p106 =>
 optO (atL p106.2 0) fun c107 =>
 chkO (c107.length == 1) (
 optO (c107[0]?) fun x108 =>
 optO (CV.asL c105) fun p109 =>
 optO (atL p109.2 1) fun c110 =>
 chkO (c110.length == 1) (
 optO (c110[0]?) fun x111 =>
 optO (CV.asL c105) fun p112 =>
 optO (atL p112.2 4) fun c113 =>
 chkO (c113.length == 1) (
 optO (c113[0]?) fun x114 =>
 chkO (CV.isCell x108) (
 chkO (CV.isCell x111) (
 chkO (CV.isCell x114) (
 optO (CV.asL c105) fun p115 =>
 optO (atL p115.2 2) fun c116 =>
 chkO (c116.length == 1) (
 optO (c116[0]?) fun x117 =>
 optO (C lb n F_text_Number [x117]) fun r118 =>
 optO (CV.asT r118) fun t119 =>
 optO (t119[0]?) fun x120 =>
 optO (CV.asT r118) fun t121 =>
 optO (t121[1]?) fun x122 =>
 chkO (CV.isCell x120) (
 chkO (CV.isCell x122) (
 optO (CV.asI .i64 x122) fun i123 =>
 bif (i123 != 0) then
 (chkO (CV.isCell x122) (
 some (.tup [.agg [.str [], .int .i64 0, .int .i64 0, .int .i64 0, .int .i64 0, .list true []], x122])))
 else
 (optO (CV.asL c105) fun p124 =>
 optO (atL p124.2 3) fun c125 =>
 chkO (c125.length == 1) (
 optO (c125[0]?) fun x126 =>
 optO (C lb n F_text_Number [x126]) fun r127 =>
 optO (CV.asT r127) fun t128 =>
 optO (t128[0]?) fun x129 =>
 optO (CV.asT r127) fun t130 =>
 optO (t130[1]?) fun x131 =>
 chkO (CV.isCell x129) (
 chkO (CV.isCell x131) (
 optO (CV.asI .i64 x131) fun i132 =>
 bif (i132 != 0) then
 (chkO (CV.isCell x131) (
 some (.tup [.agg [.str [], .int .i64 0, .int .i64 0, .int .i64 0, .int .i64 0, .list true []], x131])))
 else
 (chkO (room (l72.length + 1) 64) (
 flight_Parse_L1 lb n k102 a1 x4 r2 x6 c12 x13 p38 l39 x20 x34 x35 x36 (i103 + 1) x131 (b71 && false) (l72 ++ [[x108, x111, x120, x129, x114]])))))))))))))))))
 else
 (flight_Parse_J2 lb n a1 x4 r2 x6 c12 x13 x20 x34 x35 x36 v70 b71 l72) := (hold_eq _).trans (by kernel_rfl)

theorem flight_Parse_eq (lb : Nat) (n : Nat) (a1 : List UInt8) :
  top lb n F_flight_Parse [.str a1] =
 optO (C lb n F_text_Words [.str a1]) fun r2 =>
 optO (CV.asT r2) fun t3 =>
 optO (t3[0]?) fun x4 =>
 optO (CV.asT r2) fun t5 =>
 optO (t5[1]?) fun x6 =>
 chkO (CV.isCell x6) (
 optO (CV.asI .i64 x6) fun i7 =>
 bif (i7 != 0) then
 (chkO (CV.isCell x6) (
 some (.tup [.agg [.str [], .int .i64 0, .int .i64 0, .int .i64 0, .int .i64 0, .list true []], x6])))
 else
 (optO (CV.asL x4) fun p9 =>
 bif (decide ((p9.2.length : Int) < 8)) then
 (some (.tup [.agg [.str [], .int .i64 0, .int .i64 0, .int .i64 0, .int .i64 0, .list true []], .int .i64 3]))
 else
 (optO (CV.asL x4) fun p10 =>
 bif ((Int.tmod (p10.2.length : Int) 5) != 3) then
 (some (.tup [.agg [.str [], .int .i64 0, .int .i64 0, .int .i64 0, .int .i64 0, .list true []], .int .i64 3]))
 else
 (optO (CV.asL x4) fun p11 =>
 optO (atL p11.2 0) fun c12 =>
 chkO (c12.length == 1) (
 optO (c12[0]?) fun x13 =>
 chkO (CV.isCell x13) (
 optO (CV.asL x4) fun p14 =>
 optO (atL p14.2 1) fun c15 =>
 chkO (c15.length == 1) (
 optO (c15[0]?) fun x17 =>
 optO (C lb n F_text_Number [x17]) fun r18 =>
 optO (CV.asT r18) fun t19 =>
 optO (t19[0]?) fun x20 =>
 optO (CV.asT r18) fun t21 =>
 optO (t21[1]?) fun x22 =>
 chkO (CV.isCell x20) (
 chkO (CV.isCell x22) (
 optO (CV.asI .i64 x22) fun i23 =>
 bif (i23 != 0) then
 (chkO (CV.isCell x22) (
 some (.tup [.agg [.str [], .int .i64 0, .int .i64 0, .int .i64 0, .int .i64 0, .list true []], x22])))
 else
 (optO (CV.asL x4) fun p24 =>
 optO (atL p24.2 2) fun c25 =>
 chkO (c25.length == 1) (
 optO (c25[0]?) fun x26 =>
 optO (C lb n F_period_Parse [x26]) fun r27 =>
 optO (CV.asT r27) fun t28 =>
 optO (t28[0]?) fun x29 =>
 optO (CV.asT r27) fun t30 =>
 optO (t30[1]?) fun x31 =>
 optO (CV.asA x29) fun c33 =>
 chkO (c33.length == 3) (
 optO (c33[0]?) fun x34 =>
 optO (c33[1]?) fun x35 =>
 optO (c33[2]?) fun x36 =>
 chkO (CV.isCell x31) (
 optO (CV.asI .i64 x31) fun i37 =>
 bif (i37 != 0) then
 (chkO (CV.isCell x31) (
 some (.tup [.agg [.str [], .int .i64 0, .int .i64 0, .int .i64 0, .int .i64 0, .list true []], x31])))
 else
 (optO (CV.asL x4) fun p38 =>
 chkO (p38.2.all (·.length == 1)) (
 chkO (decide ((0 : Int) ≤ 3 ∧ 3 ≤ (p38.2.length : Int))) (
 optO (itChunk [[.list p38.1 ((p38.2.take ((p38.2.length : Int).toNat)).drop 3)], [.int .i64 5]]) fun l39 =>
 chkO (l39.all fun x => x.length == 1) (
 flight_Parse_L1 lb n n a1 x4 r2 x6 c12 x13 p38 l39 x20 x34 x35 x36 0 x31 true []))))))))))))))))) := by kernel_rfl

end Go.Proofs
