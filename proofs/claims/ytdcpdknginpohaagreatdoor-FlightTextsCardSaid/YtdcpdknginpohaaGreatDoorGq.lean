/- Equations of functions, printed by program. Conditions: none. -/
import Derived.Test.YtdcpdknginpohaaGreatDoorEv
namespace Go.Proofs
open Go.Am
set_option maxRecDepth 100000
set_option linter.unusedVariables false
/-! airline/airlineref07.Parse -/
noncomputable def r07_Parse_L1 (lb : Nat) (n : Nat) (k98 : Nat) (a1 : List UInt8) (x4 : CV) (x28 : CV) (x17 : CV) (r2 : CV) (x6 : CV) (r14 : CV) (c12 : List CV) (x13 : CV) (x19 : CV) (r24 : CV) (c22 : List CV) (x23 : CV) (x26 : CV) (c36 : List CV) (x37 : CV) (x30 : CV) (x31 : CV) (x33 : CV) (i67 : Int) (b68 : Bool) (l69 : List (List CV)) : Option CV :=
  hold (loopC (E0 lb n 0 987) 0 (loopTemps (sub (B F_r07_Parse) [1, 1, 1, 1, 1, 1, 1, 1, 1, 0, 1, 0, 0]) ++ [10, 11, 12, 11]) [] (sub (B F_r07_Parse) [1, 1, 1, 1, 1, 1, 1, 1, 1, 0, 1, 0, 0]) (blockK 0 (seqK (E0 lb n 0 990) (sub (B F_r07_Parse) [1, 1, 1, 1, 1, 1, 1, 1, 1, 0]) (sub (B F_r07_Parse) [1, 1, 1, 1, 1, 1, 1, 1, 1, 1]) (retK Tryz.prog (R F_r07_Parse) 0 (outK (tightF Tryz.prog F_r07_Parse))))) k98 ⟨fr 125 [(0, .val (.str a1)), (2, .ptr 0 2 0), (3, .val (.int .i64 0)), (4, .val x4), (5, .val x28), (6, .val x17), (7, .ptr 0 7 0), (8, .ptr 0 8 0), (9, .val (.int .i64 i67)), (13, .val r2), (14, .val (.str a1)), (15, .val r2), (16, .val x4), (17, .val x6), (33, .val r14), (34, .val x4), (35, .cptr c12 0), (36, .val x13), (37, .val r14), (38, .val x17), (39, .val x19), (44, .val r24), (45, .val x4), (46, .cptr c22 0), (47, .val x23), (48, .val r24), (49, .val x26), (50, .val x28), (55, .val x4), (56, .cptr c36 0), (57, .val x37), (58, .val x17), (59, .val (.agg [x30, x31, x33])), (60, .val (.agg [x37, x17, x30, x31, x33, .list true []]))], [bx 125 [(2, some [.val (.str []), .val (.int .i64 0), .val (.int .i64 0), .val (.int .i64 0), .val (.int .i64 0), .lst true true 94 []]), (7, some [.val x30, .val x31, .val x33]), (8, some [.val x37, .val x17, .val x30, .val x31, .val x33, .lst true b68 94 l69])]], KK⟩)

noncomputable def r07_Parse_J2 (lb : Nat) (n : Nat) (a1 : List UInt8) (x4 : CV) (x28 : CV) (x17 : CV) (r2 : CV) (x6 : CV) (r14 : CV) (c12 : List CV) (x13 : CV) (x19 : CV) (r24 : CV) (c22 : List CV) (x23 : CV) (x26 : CV) (c36 : List CV) (x37 : CV) (x30 : CV) (x31 : CV) (x33 : CV) (i127 : Int) (b128 : Bool) (l129 : List (List CV)) : Option CV :=
  hold (E0 lb n 0 990 (sub (B F_r07_Parse) [1, 1, 1, 1, 1, 1, 1, 1, 1, 1]) (retK Tryz.prog (R F_r07_Parse) 0 (outK (tightF Tryz.prog F_r07_Parse))) ⟨fr 125 [(0, .val (.str a1)), (2, .ptr 0 2 0), (3, .val (.int .i64 0)), (4, .val x4), (5, .val x28), (6, .val x17), (7, .ptr 0 7 0), (8, .ptr 0 8 0), (9, .val (.int .i64 i127)), (13, .val r2), (14, .val (.str a1)), (15, .val r2), (16, .val x4), (17, .val x6), (33, .val r14), (34, .val x4), (35, .cptr c12 0), (36, .val x13), (37, .val r14), (38, .val x17), (39, .val x19), (44, .val r24), (45, .val x4), (46, .cptr c22 0), (47, .val x23), (48, .val r24), (49, .val x26), (50, .val x28), (55, .val x4), (56, .cptr c36 0), (57, .val x37), (58, .val x17), (59, .val (.agg [x30, x31, x33])), (60, .val (.agg [x37, x17, x30, x31, x33, .list true []]))], [bx 125 [(2, some [.val (.str []), .val (.int .i64 0), .val (.int .i64 0), .val (.int .i64 0), .val (.int .i64 0), .lst true true 94 []]), (7, some [.val x30, .val x31, .val x33]), (8, some [.val x37, .val x17, .val x30, .val x31, .val x33, .lst true b128 94 l129])]], KK⟩)

theorem r07_Parse_J2_eq (lb : Nat) (n : Nat) (a1 : List UInt8) (x4 : CV) (x28 : CV) (x17 : CV) (r2 : CV) (x6 : CV) (r14 : CV) (c12 : List CV) (x13 : CV) (x19 : CV) (r24 : CV) (c22 : List CV) (x23 : CV) (x26 : CV) (c36 : List CV) (x37 : CV) (x30 : CV) (x31 : CV) (x33 : CV) (i127 : Int) (b128 : Bool) (l129 : List (List CV)) :
  r07_Parse_J2 lb n a1 x4 x28 x17 r2 x6 r14 c12 x13 x19 r24 c22 x23 x26 c36 x37 x30 x31 x33 i127 b128 l129 =
 optO (C lb n F_r07_Print [.agg [x37, x17, x30, x31, x33, .list b128 l129]]) fun r130 =>
 optO (CV.asT r130) fun t131 =>
 optO (t131[0]?) fun x132 =>
 optO (CV.asT r130) fun t133 =>
 optO (t133[1]?) fun x134 =>
 optO (CV.asI .i64 x134) fun i135 =>
 bif (i135 != 0) then
 (some (.tup [.agg [.str [], .int .i64 0, .int .i64 0, .int .i64 0, .int .i64 0, .list true []], x134]))
 else
 (some (.tup [.agg [x37, x17, x30, x31, x33, .list b128 l129], .int .i64 0])) := (hold_eq _).trans (by kernel_rfl)

theorem r07_Parse_L1_succ (lb : Nat) (n k98 : Nat) (a1 : List UInt8) (x4 : CV) (x28 : CV) (x17 : CV) (r2 : CV) (x6 : CV) (r14 : CV) (c12 : List CV) (x13 : CV) (x19 : CV) (r24 : CV) (c22 : List CV) (x23 : CV) (x26 : CV) (c36 : List CV) (x37 : CV) (x30 : CV) (x31 : CV) (x33 : CV) (i67 : Int) (b68 : Bool) (l69 : List (List CV)) :
  r07_Parse_L1 lb n (k98 + 1) a1 x4 x28 x17 r2 x6 r14 c12 x13 x19 r24 c22 x23 x26 c36 x37 x30 x31 x33 i67 b68 l69 =
 optO (CV.asL x4) fun p99 =>
 bif (decide (i67 < (p99.2.length : Int))) then
 (optO (CV.asL x4) fun p100 =>
 optO (atL p100.2 (IntKind.wrap .i64 (i67 + 2))) fun c101 =>
 chkO (c101.length == 1) (
 optO (c101[0]?) fun x102 =>
 optO (C lb n F_r01_Number [x102]) fun r103 =>
 optO (CV.asT r103) fun t104 =>
 optO (t104[0]?) fun x105 =>
 optO (CV.asT r103) fun t106 =>
 optO (t106[1]?) fun x107 =>
 optO (CV.asI .i64 x107) fun i108 =>
 bif (i108 != 0) then
 (some (.tup [.agg [.str [], .int .i64 0, .int .i64 0, .int .i64 0, .int .i64 0, .list true []], x107]))
 else
 (optO (CV.asL x4) fun p109 =>
 optO (atL p109.2 (IntKind.wrap .i64 (i67 + 3))) fun c110 =>
 chkO (c110.length == 1) (
 optO (c110[0]?) fun x111 =>
 optO (C lb n F_r01_Number [x111]) fun r112 =>
 optO (CV.asT r112) fun t113 =>
 optO (t113[0]?) fun x114 =>
 optO (CV.asT r112) fun t115 =>
 optO (t115[1]?) fun x116 =>
 optO (CV.asI .i64 x116) fun i117 =>
 bif (i117 != 0) then
 (some (.tup [.agg [.str [], .int .i64 0, .int .i64 0, .int .i64 0, .int .i64 0, .list true []], x116]))
 else
 (optO (CV.asL x4) fun p118 =>
 optO (atL p118.2 i67) fun c119 =>
 chkO (c119.length == 1) (
 optO (c119[0]?) fun x120 =>
 optO (CV.asL x4) fun p121 =>
 optO (atL p121.2 (IntKind.wrap .i64 (i67 + 1))) fun c122 =>
 chkO (c122.length == 1) (
 optO (c122[0]?) fun x123 =>
 optO (CV.asL x4) fun p124 =>
 optO (atL p124.2 (IntKind.wrap .i64 (i67 + 4))) fun c125 =>
 chkO (c125.length == 1) (
 optO (c125[0]?) fun x126 =>
 chkO (CV.isCell x120) (
 chkO (CV.isCell x123) (
 chkO (CV.isCell x105) (
 chkO (CV.isCell x114) (
 chkO (CV.isCell x126) (
 chkO (room (l69.length + 1) 64) (
 r07_Parse_L1 lb n k98 a1 x4 x28 x17 r2 x6 r14 c12 x13 x19 r24 c22 x23 x26 c36 x37 x30 x31 x33 (IntKind.wrap .i64 (i67 + 5)) (b68 && false) (l69 ++ [[x120, x123, x105, x114, x126]])))))))))))))))
 else
 (r07_Parse_J2 lb n a1 x4 x28 x17 r2 x6 r14 c12 x13 x19 r24 c22 x23 x26 c36 x37 x30 x31 x33 i67 b68 l69) := (hold_eq _).trans (by kernel_rfl)

theorem r07_Parse_eq (lb : Nat) (n : Nat) (a1 : List UInt8) :
  top lb n F_r07_Parse [.str a1] =
 optO (C lb n F_r01_Words [.str a1]) fun r2 =>
 optO (CV.asT r2) fun t3 =>
 optO (t3[0]?) fun x4 =>
 optO (CV.asT r2) fun t5 =>
 optO (t5[1]?) fun x6 =>
 optO (CV.asI .i64 x6) fun i7 =>
 bif (i7 != 0) then
 (some (.tup [.agg [.str [], .int .i64 0, .int .i64 0, .int .i64 0, .int .i64 0, .list true []], x6]))
 else
 (optO (CV.asL x4) fun p9 =>
 bif (decide ((p9.2.length : Int) < 8)) then
 (some (.tup [.agg [.str [], .int .i64 0, .int .i64 0, .int .i64 0, .int .i64 0, .list true []], .int .i64 3]))
 else
 (optO (CV.asL x4) fun p10 =>
 bif ((Int.tmod (IntKind.wrap .i64 ((p10.2.length : Int) - 3)) 5) != 0) then
 (some (.tup [.agg [.str [], .int .i64 0, .int .i64 0, .int .i64 0, .int .i64 0, .list true []], .int .i64 3]))
 else
 (optO (CV.asL x4) fun p11 =>
 optO (atL p11.2 1) fun c12 =>
 chkO (c12.length == 1) (
 optO (c12[0]?) fun x13 =>
 optO (C lb n F_r01_Number [x13]) fun r14 =>
 optO (CV.asT r14) fun t15 =>
 optO (t15[0]?) fun x17 =>
 optO (CV.asT r14) fun t18 =>
 optO (t18[1]?) fun x19 =>
 optO (CV.asI .i64 x19) fun i20 =>
 bif (i20 != 0) then
 (some (.tup [.agg [.str [], .int .i64 0, .int .i64 0, .int .i64 0, .int .i64 0, .list true []], x19]))
 else
 (optO (CV.asL x4) fun p21 =>
 optO (atL p21.2 2) fun c22 =>
 chkO (c22.length == 1) (
 optO (c22[0]?) fun x23 =>
 optO (C lb n F_r04_Parse [x23]) fun r24 =>
 optO (CV.asT r24) fun t25 =>
 optO (t25[0]?) fun x26 =>
 optO (CV.asT r24) fun t27 =>
 optO (t27[1]?) fun x28 =>
 optO (CV.asA x26) fun c29 =>
 chkO (c29.length == 3) (
 optO (c29[0]?) fun x30 =>
 optO (c29[1]?) fun x31 =>
 optO (c29[2]?) fun x33 =>
 optO (CV.asI .i64 x28) fun i34 =>
 bif (i34 != 0) then
 (some (.tup [.agg [.str [], .int .i64 0, .int .i64 0, .int .i64 0, .int .i64 0, .list true []], x28]))
 else
 (optO (CV.asL x4) fun p35 =>
 optO (atL p35.2 0) fun c36 =>
 chkO (c36.length == 1) (
 optO (c36[0]?) fun x37 =>
 chkO (CV.isCell x37) (
 chkO (CV.isCell x17) (
 r07_Parse_L1 lb n n a1 x4 x28 x17 r2 x6 r14 c12 x13 x19 r24 c22 x23 x26 c36 x37 x30 x31 x33 3 true []))))))))))) := by kernel_rfl

end Go.Proofs
