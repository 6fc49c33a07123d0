/- Equations of functions, printed by program. Conditions: none. -/
import Derived.Test.YtifjdkimbamdkaaGreatDoorEv
namespace Go.Proofs
open Go.Am
set_option maxRecDepth 100000
set_option linter.unusedVariables false
/-! airline/airlineref07.Legs -/
theorem r07_Legs_eq (lb : Bool) (n : Nat) (aairn1 : Bool) (aair2 : List (List CV)) (adisn3 : Bool) (adis4 : List (List CV)) (bcar5 : List UInt8) (bnum6 : Int) (bperfro7 : Int) (bperto9 : Int) (bperday10 : Int) (blegn11 : Bool) (bleg12 : List (List CV)) (c13 : Int) :
  top lb n F_r07_Legs [.agg [.list aairn1 aair2, .list adisn3 adis4], .agg [.str bcar5, .int .i64 bnum6, .int .i64 bperfro7, .int .i64 bperto9, .int .i64 bperday10, .list blegn11 bleg12], .int .i64 c13] =
 optO (C lb n F_r04_Has [.agg [.int .i64 bperfro7, .int .i64 bperto9, .int .i64 bperday10], .int .i64 c13]) fun r14 =>
 optO (CV.asB r14) fun b15 =>
 bif (!b15) then
 (some (.tup [.list true [], .int .i64 12]))
 else
 (optO (C lb n F_r07_legs [.agg [.list aairn1 aair2, .list adisn3 adis4], .agg [.str bcar5, .int .i64 bnum6, .int .i64 bperfro7, .int .i64 bperto9, .int .i64 bperday10, .list blegn11 bleg12], .int .i64 c13]) fun r17 =>
 some (.tup [r17, .int .i64 0])) := by kernel_rfl

/-! airline/airlineref07.Segs -/
noncomputable def r07_Segs_L1 (lb : Bool) (n : Nat) (k93 : Nat) (aairn1 : Bool) (aair2 : List (List CV)) (adisn3 : Bool) (adis4 : List (List CV)) (bcar5 : List UInt8) (bnum6 : Int) (bperfro7 : Int) (bperto9 : Int) (bperday10 : Int) (blegn11 : Bool) (bleg12 : List (List CV)) (c13 : Int) (x17 : CV) (x19 : CV) (r14 : CV) (b55 : Bool) (l56 : List (List CV)) (i57 : Int) : Option CV :=
  hold (loopC (E0 lb n 0 993) 0 (loopTemps (sub (B F_r07_Segs) [1, 1, 1, 0, 1, 0, 0]) ++ [12, 12]) [] (sub (B F_r07_Segs) [1, 1, 1, 0, 1, 0, 0]) (blockK 0 (seqK (E0 lb n 0 996) (sub (B F_r07_Segs) [1, 1, 1, 0]) (sub (B F_r07_Segs) [1, 1, 1, 1]) (retK Tryz.prog (R F_r07_Segs) 0 (outK (tightF Tryz.prog F_r07_Segs))))) k93 ⟨fr 42 [(0, .val (.agg [.list aairn1 aair2, .list adisn3 adis4])), (1, .val (.agg [.str bcar5, .int .i64 bnum6, .int .i64 bperfro7, .int .i64 bperto9, .int .i64 bperday10, .list blegn11 bleg12])), (2, .val (.int .i64 c13)), (3, .ptr 0 3 0), (4, .ptr 0 4 0), (6, .lst true true 47 []), (7, .val (.int .i64 0)), (8, .val x17), (9, .val x19), (10, .lst true b55 47 l56), (11, .val (.int .i64 i57)), (13, .val r14), (14, .val (.agg [.list aairn1 aair2, .list adisn3 adis4])), (15, .val (.agg [.str bcar5, .int .i64 bnum6, .int .i64 bperfro7, .int .i64 bperto9, .int .i64 bperday10, .list blegn11 bleg12])), (16, .val (.int .i64 c13)), (17, .val r14), (18, .val x17), (19, .val x19)], [bx 42 [(3, some [.val (.list aairn1 aair2), .val (.list adisn3 adis4)]), (4, some [.val (.str bcar5), .val (.int .i64 bnum6), .val (.int .i64 bperfro7), .val (.int .i64 bperto9), .val (.int .i64 bperday10), .val (.list blegn11 bleg12)])]], KK⟩)

noncomputable def r07_Segs_L2 (lb : Bool) (n : Nat) (k118 : Nat) (k93 : Nat) (aairn1 : Bool) (aair2 : List (List CV)) (adisn3 : Bool) (adis4 : List (List CV)) (bcar5 : List UInt8) (bnum6 : Int) (bperfro7 : Int) (bperto9 : Int) (bperday10 : Int) (blegn11 : Bool) (bleg12 : List (List CV)) (c13 : Int) (x17 : CV) (x19 : CV) (i57 : Int) (r14 : CV) (b105 : Bool) (l106 : List (List CV)) (i107 : Int) : Option CV :=
  hold (loopC (E0 lb n 0 987) 0 (loopTemps (sub (B F_r07_Segs) [1, 1, 1, 0, 1, 0, 0, 1, 0, 0, 1, 0, 0]) ++ []) [] (sub (B F_r07_Segs) [1, 1, 1, 0, 1, 0, 0, 1, 0, 0, 1, 0, 0]) (blockK 2 (blockK 1 (seqK (E0 lb n 0 991) (sub (B F_r07_Segs) [1, 1, 1, 0, 1, 0, 0, 1, 0]) (sub (B F_r07_Segs) [1, 1, 1, 0, 1, 0, 0, 1, 1]) (loopK 0 (loopTemps (sub (B F_r07_Segs) [1, 1, 1, 0, 1, 0, 0]) ++ [12, 12]) [] (loopC (E0 lb n 0 993) 0 (loopTemps (sub (B F_r07_Segs) [1, 1, 1, 0, 1, 0, 0]) ++ [12, 12]) [] (sub (B F_r07_Segs) [1, 1, 1, 0, 1, 0, 0]) (blockK 0 (seqK (E0 lb n 0 996) (sub (B F_r07_Segs) [1, 1, 1, 0]) (sub (B F_r07_Segs) [1, 1, 1, 1]) (retK Tryz.prog (R F_r07_Segs) 0 (outK (tightF Tryz.prog F_r07_Segs))))) k93) (blockK 0 (seqK (E0 lb n 0 996) (sub (B F_r07_Segs) [1, 1, 1, 0]) (sub (B F_r07_Segs) [1, 1, 1, 1]) (retK Tryz.prog (R F_r07_Segs) 0 (outK (tightF Tryz.prog F_r07_Segs))))))))) k118 ⟨fr 42 [(0, .val (.agg [.list aairn1 aair2, .list adisn3 adis4])), (1, .val (.agg [.str bcar5, .int .i64 bnum6, .int .i64 bperfro7, .int .i64 bperto9, .int .i64 bperday10, .list blegn11 bleg12])), (2, .val (.int .i64 c13)), (3, .ptr 0 3 0), (4, .ptr 0 4 0), (6, .lst true true 47 []), (7, .val (.int .i64 0)), (8, .val x17), (9, .val x19), (10, .lst true b105 47 l106), (11, .val (.int .i64 i57)), (12, .val (.int .i64 i107)), (13, .val r14), (14, .val (.agg [.list aairn1 aair2, .list adisn3 adis4])), (15, .val (.agg [.str bcar5, .int .i64 bnum6, .int .i64 bperfro7, .int .i64 bperto9, .int .i64 bperday10, .list blegn11 bleg12])), (16, .val (.int .i64 c13)), (17, .val r14), (18, .val x17), (19, .val x19), (26, .val (.int .i64 i57))], [bx 42 [(3, some [.val (.list aairn1 aair2), .val (.list adisn3 adis4)]), (4, some [.val (.str bcar5), .val (.int .i64 bnum6), .val (.int .i64 bperfro7), .val (.int .i64 bperto9), .val (.int .i64 bperday10), .val (.list blegn11 bleg12)])]], KK⟩)

noncomputable def r07_Segs_J3 (lb : Bool) (n : Nat) (k93 : Nat) (aairn1 : Bool) (aair2 : List (List CV)) (adisn3 : Bool) (adis4 : List (List CV)) (bcar5 : List UInt8) (bnum6 : Int) (bperfro7 : Int) (bperto9 : Int) (bperday10 : Int) (blegn11 : Bool) (bleg12 : List (List CV)) (c13 : Int) (x17 : CV) (x19 : CV) (i57 : Int) (r14 : CV) (b129 : Bool) (l130 : List (List CV)) (i131 : Int) : Option CV :=
  hold (E0 lb n 0 991 (sub (B F_r07_Segs) [1, 1, 1, 0, 1, 0, 0, 1, 1]) (loopK 0 (loopTemps (sub (B F_r07_Segs) [1, 1, 1, 0, 1, 0, 0]) ++ [12, 12]) [] (loopC (E0 lb n 0 993) 0 (loopTemps (sub (B F_r07_Segs) [1, 1, 1, 0, 1, 0, 0]) ++ [12, 12]) [] (sub (B F_r07_Segs) [1, 1, 1, 0, 1, 0, 0]) (blockK 0 (seqK (E0 lb n 0 996) (sub (B F_r07_Segs) [1, 1, 1, 0]) (sub (B F_r07_Segs) [1, 1, 1, 1]) (retK Tryz.prog (R F_r07_Segs) 0 (outK (tightF Tryz.prog F_r07_Segs))))) k93) (blockK 0 (seqK (E0 lb n 0 996) (sub (B F_r07_Segs) [1, 1, 1, 0]) (sub (B F_r07_Segs) [1, 1, 1, 1]) (retK Tryz.prog (R F_r07_Segs) 0 (outK (tightF Tryz.prog F_r07_Segs)))))) ⟨fr 42 [(0, .val (.agg [.list aairn1 aair2, .list adisn3 adis4])), (1, .val (.agg [.str bcar5, .int .i64 bnum6, .int .i64 bperfro7, .int .i64 bperto9, .int .i64 bperday10, .list blegn11 bleg12])), (2, .val (.int .i64 c13)), (3, .ptr 0 3 0), (4, .ptr 0 4 0), (6, .lst true true 47 []), (7, .val (.int .i64 0)), (8, .val x17), (9, .val x19), (10, .lst true b129 47 l130), (11, .val (.int .i64 i57)), (12, .val (.int .i64 i131)), (13, .val r14), (14, .val (.agg [.list aairn1 aair2, .list adisn3 adis4])), (15, .val (.agg [.str bcar5, .int .i64 bnum6, .int .i64 bperfro7, .int .i64 bperto9, .int .i64 bperday10, .list blegn11 bleg12])), (16, .val (.int .i64 c13)), (17, .val r14), (18, .val x17), (19, .val x19)], [bx 42 [(3, some [.val (.list aairn1 aair2), .val (.list adisn3 adis4)]), (4, some [.val (.str bcar5), .val (.int .i64 bnum6), .val (.int .i64 bperfro7), .val (.int .i64 bperto9), .val (.int .i64 bperday10), .val (.list blegn11 bleg12)])]], KK⟩)

theorem r07_Segs_J3_eq (lb : Bool) (n : Nat) (k93 : Nat) (aairn1 : Bool) (aair2 : List (List CV)) (adisn3 : Bool) (adis4 : List (List CV)) (bcar5 : List UInt8) (bnum6 : Int) (bperfro7 : Int) (bperto9 : Int) (bperday10 : Int) (blegn11 : Bool) (bleg12 : List (List CV)) (c13 : Int) (x17 : CV) (x19 : CV) (i57 : Int) (r14 : CV) (b129 : Bool) (l130 : List (List CV)) (i131 : Int) :
  r07_Segs_J3 lb n k93 aairn1 aair2 adisn3 adis4 bcar5 bnum6 bperfro7 bperto9 bperday10 blegn11 bleg12 c13 x17 x19 i57 r14 b129 l130 i131 =
 r07_Segs_L1 lb n k93 aairn1 aair2 adisn3 adis4 bcar5 bnum6 bperfro7 bperto9 bperday10 blegn11 bleg12 c13 x17 x19 r14 b129 l130 (IntKind.wrap .i64 (i57 + 1)) := (hold_eq _).trans (by kernel_rfl)

theorem r07_Segs_L2_succ (lb : Bool) (n k118 : Nat) (k93 : Nat) (aairn1 : Bool) (aair2 : List (List CV)) (adisn3 : Bool) (adis4 : List (List CV)) (bcar5 : List UInt8) (bnum6 : Int) (bperfro7 : Int) (bperto9 : Int) (bperday10 : Int) (blegn11 : Bool) (bleg12 : List (List CV)) (c13 : Int) (x17 : CV) (x19 : CV) (i57 : Int) (r14 : CV) (b105 : Bool) (l106 : List (List CV)) (i107 : Int) :
  r07_Segs_L2 lb n (k118 + 1) k93 aairn1 aair2 adisn3 adis4 bcar5 bnum6 bperfro7 bperto9 bperday10 blegn11 bleg12 c13 x17 x19 i57 r14 b105 l106 i107 =
 optO (CV.asL x17) fun p119 =>
 bif (decide (i107 < (p119.2.length : Int))) then
 (optO (C lb n F_r07_seg [x17, .int .i64 i57, .int .i64 i107]) fun r120 =>
 optO (CV.asA r120) fun c121 =>
 chkO (c121.length == 7) (
 optO (c121[0]?) fun x122 =>
 optO (c121[1]?) fun x123 =>
 optO (c121[2]?) fun x124 =>
 optO (c121[3]?) fun x125 =>
 optO (c121[4]?) fun x126 =>
 optO (c121[5]?) fun x127 =>
 optO (c121[6]?) fun x128 =>
 chkO (room (l106.length + 1) 80) (
 r07_Segs_L2 lb n k118 k93 aairn1 aair2 adisn3 adis4 bcar5 bnum6 bperfro7 bperto9 bperday10 blegn11 bleg12 c13 x17 x19 i57 r14 (b105 && false) (l106 ++ [[x122, x123, x124, x125, x126, x127, x128]]) (IntKind.wrap .i64 (i107 + 1)))))
 else
 (r07_Segs_J3 lb n k93 aairn1 aair2 adisn3 adis4 bcar5 bnum6 bperfro7 bperto9 bperday10 blegn11 bleg12 c13 x17 x19 i57 r14 b105 l106 i107) := (hold_eq _).trans (by kernel_rfl)

theorem r07_Segs_L2_zero (lb : Bool) (n : Nat) (k93 : Nat) (aairn1 : Bool) (aair2 : List (List CV)) (adisn3 : Bool) (adis4 : List (List CV)) (bcar5 : List UInt8) (bnum6 : Int) (bperfro7 : Int) (bperto9 : Int) (bperday10 : Int) (blegn11 : Bool) (bleg12 : List (List CV)) (c13 : Int) (x17 : CV) (x19 : CV) (i57 : Int) (r14 : CV) (b105 : Bool) (l106 : List (List CV)) (i107 : Int) :
  r07_Segs_L2 lb n 0 k93 aairn1 aair2 adisn3 adis4 bcar5 bnum6 bperfro7 bperto9 bperday10 blegn11 bleg12 c13 x17 x19 i57 r14 b105 l106 i107 =
 none := (hold_eq _).trans (by kernel_rfl)

noncomputable def r07_Segs_J4 (lb : Bool) (n : Nat) (aairn1 : Bool) (aair2 : List (List CV)) (adisn3 : Bool) (adis4 : List (List CV)) (bcar5 : List UInt8) (bnum6 : Int) (bperfro7 : Int) (bperto9 : Int) (bperday10 : Int) (blegn11 : Bool) (bleg12 : List (List CV)) (c13 : Int) (x17 : CV) (x19 : CV) (r14 : CV) (b132 : Bool) (l133 : List (List CV)) (i134 : Int) : Option CV :=
  hold (E0 lb n 0 996 (sub (B F_r07_Segs) [1, 1, 1, 1]) (retK Tryz.prog (R F_r07_Segs) 0 (outK (tightF Tryz.prog F_r07_Segs))) ⟨fr 42 [(0, .val (.agg [.list aairn1 aair2, .list adisn3 adis4])), (1, .val (.agg [.str bcar5, .int .i64 bnum6, .int .i64 bperfro7, .int .i64 bperto9, .int .i64 bperday10, .list blegn11 bleg12])), (2, .val (.int .i64 c13)), (3, .ptr 0 3 0), (4, .ptr 0 4 0), (6, .lst true true 47 []), (7, .val (.int .i64 0)), (8, .val x17), (9, .val x19), (10, .lst true b132 47 l133), (11, .val (.int .i64 i134)), (13, .val r14), (14, .val (.agg [.list aairn1 aair2, .list adisn3 adis4])), (15, .val (.agg [.str bcar5, .int .i64 bnum6, .int .i64 bperfro7, .int .i64 bperto9, .int .i64 bperday10, .list blegn11 bleg12])), (16, .val (.int .i64 c13)), (17, .val r14), (18, .val x17), (19, .val x19)], [bx 42 [(3, some [.val (.list aairn1 aair2), .val (.list adisn3 adis4)]), (4, some [.val (.str bcar5), .val (.int .i64 bnum6), .val (.int .i64 bperfro7), .val (.int .i64 bperto9), .val (.int .i64 bperday10), .val (.list blegn11 bleg12)])]], KK⟩)

theorem r07_Segs_J4_eq (lb : Bool) (n : Nat) (aairn1 : Bool) (aair2 : List (List CV)) (adisn3 : Bool) (adis4 : List (List CV)) (bcar5 : List UInt8) (bnum6 : Int) (bperfro7 : Int) (bperto9 : Int) (bperday10 : Int) (blegn11 : Bool) (bleg12 : List (List CV)) (c13 : Int) (x17 : CV) (x19 : CV) (r14 : CV) (b132 : Bool) (l133 : List (List CV)) (i134 : Int) :
  r07_Segs_J4 lb n aairn1 aair2 adisn3 adis4 bcar5 bnum6 bperfro7 bperto9 bperday10 blegn11 bleg12 c13 x17 x19 r14 b132 l133 i134 =
 some (.tup [.list b132 l133, x19]) := (hold_eq _).trans (by kernel_rfl)

theorem r07_Segs_L1_succ (lb : Bool) (n k93 : Nat) (aairn1 : Bool) (aair2 : List (List CV)) (adisn3 : Bool) (adis4 : List (List CV)) (bcar5 : List UInt8) (bnum6 : Int) (bperfro7 : Int) (bperto9 : Int) (bperday10 : Int) (blegn11 : Bool) (bleg12 : List (List CV)) (c13 : Int) (x17 : CV) (x19 : CV) (r14 : CV) (b55 : Bool) (l56 : List (List CV)) (i57 : Int) :
  r07_Segs_L1 lb n (k93 + 1) aairn1 aair2 adisn3 adis4 bcar5 bnum6 bperfro7 bperto9 bperday10 blegn11 bleg12 c13 x17 x19 r14 b55 l56 i57 =
 optO (CV.asL x17) fun p94 =>
 bif (decide (i57 < (p94.2.length : Int))) then
 (r07_Segs_L2 lb n n k93 aairn1 aair2 adisn3 adis4 bcar5 bnum6 bperfro7 bperto9 bperday10 blegn11 bleg12 c13 x17 x19 i57 r14 b55 l56 i57)
 else
 (r07_Segs_J4 lb n aairn1 aair2 adisn3 adis4 bcar5 bnum6 bperfro7 bperto9 bperday10 blegn11 bleg12 c13 x17 x19 r14 b55 l56 i57) := (hold_eq _).trans (by kernel_rfl)

theorem r07_Segs_L1_zero (lb : Bool) (n : Nat) (aairn1 : Bool) (aair2 : List (List CV)) (adisn3 : Bool) (adis4 : List (List CV)) (bcar5 : List UInt8) (bnum6 : Int) (bperfro7 : Int) (bperto9 : Int) (bperday10 : Int) (blegn11 : Bool) (bleg12 : List (List CV)) (c13 : Int) (x17 : CV) (x19 : CV) (r14 : CV) (b55 : Bool) (l56 : List (List CV)) (i57 : Int) :
  r07_Segs_L1 lb n 0 aairn1 aair2 adisn3 adis4 bcar5 bnum6 bperfro7 bperto9 bperday10 blegn11 bleg12 c13 x17 x19 r14 b55 l56 i57 =
 none := (hold_eq _).trans (by kernel_rfl)

theorem r07_Segs_eq (lb : Bool) (n : Nat) (aairn1 : Bool) (aair2 : List (List CV)) (adisn3 : Bool) (adis4 : List (List CV)) (bcar5 : List UInt8) (bnum6 : Int) (bperfro7 : Int) (bperto9 : Int) (bperday10 : Int) (blegn11 : Bool) (bleg12 : List (List CV)) (c13 : Int) :
  top lb n F_r07_Segs [.agg [.list aairn1 aair2, .list adisn3 adis4], .agg [.str bcar5, .int .i64 bnum6, .int .i64 bperfro7, .int .i64 bperto9, .int .i64 bperday10, .list blegn11 bleg12], .int .i64 c13] =
 optO (C lb n F_r07_Legs [.agg [.list aairn1 aair2, .list adisn3 adis4], .agg [.str bcar5, .int .i64 bnum6, .int .i64 bperfro7, .int .i64 bperto9, .int .i64 bperday10, .list blegn11 bleg12], .int .i64 c13]) fun r14 =>
 optO (CV.asT r14) fun t15 =>
 optO (t15[0]?) fun x17 =>
 optO (CV.asT r14) fun t18 =>
 optO (t18[1]?) fun x19 =>
 r07_Segs_L1 lb n n aairn1 aair2 adisn3 adis4 bcar5 bnum6 bperfro7 bperto9 bperday10 blegn11 bleg12 c13 x17 x19 r14 true [] 0 := by kernel_rfl

/-! airline/flight.Segs -/
noncomputable def flight_Segs_L1 (lb : Bool) (n : Nat) (k109 : Nat) (aairn1 : Bool) (aair2 : List (List CV)) (adisn3 : Bool) (adis4 : List (List CV)) (bcar5 : List UInt8) (bnum6 : Int) (bperfro7 : Int) (bperto9 : Int) (bperday10 : Int) (blegn11 : Bool) (bleg12 : List (List CV)) (c13 : Int) (x17 : CV) (x19 : CV) (r14 : CV) (p21 : Bool × List (List CV)) (b65 : Bool) (l66 : List (List CV)) (i67 : Int) : Option CV :=
  hold (loopC (E0 lb n 0 992) 0 (loopTemps (sub (B F_flight_Segs) [1, 1, 1, 1, 0, 1, 0, 0]) ++ [11]) [12, 14] (sub (B F_flight_Segs) [1, 1, 1, 1, 0, 1, 0, 0]) (blockK 0 (seqK (E0 lb n 0 995) (sub (B F_flight_Segs) [1, 1, 1, 1, 0]) (sub (B F_flight_Segs) [1, 1, 1, 1, 1]) (retK Tryz.prog (R F_flight_Segs) 0 (outK (tightF Tryz.prog F_flight_Segs))))) k109 ⟨fr 60 [(0, .val (.agg [.list aairn1 aair2, .list adisn3 adis4])), (1, .val (.agg [.str bcar5, .int .i64 bnum6, .int .i64 bperfro7, .int .i64 bperto9, .int .i64 bperday10, .list blegn11 bleg12])), (2, .val (.int .i64 c13)), (3, .ptr 0 3 0), (4, .ptr 0 4 0), (6, .lst true true 47 []), (7, .val (.int .i64 0)), (8, .val x17), (9, .val x19), (10, .lst true b65 47 l66), (15, .val r14), (16, .val (.agg [.list aairn1 aair2, .list adisn3 adis4])), (17, .val (.agg [.str bcar5, .int .i64 bnum6, .int .i64 bperfro7, .int .i64 bperto9, .int .i64 bperday10, .list blegn11 bleg12])), (18, .val (.int .i64 c13)), (19, .val r14), (20, .val x17), (21, .val x19), (25, .val x17), (26, .val (.int .i64 (p21.2.length : Int))), (27, .val (.int .i64 i67))], [bx 60 [(3, some [.val (.list aairn1 aair2), .val (.list adisn3 adis4)]), (4, some [.val (.str bcar5), .val (.int .i64 bnum6), .val (.int .i64 bperfro7), .val (.int .i64 bperto9), .val (.int .i64 bperday10), .val (.list blegn11 bleg12)])]], KK⟩)

noncomputable def flight_Segs_L2 (lb : Bool) (n : Nat) (k142 : Nat) (k109 : Nat) (aairn1 : Bool) (aair2 : List (List CV)) (adisn3 : Bool) (adis4 : List (List CV)) (bcar5 : List UInt8) (bnum6 : Int) (bperfro7 : Int) (bperto9 : Int) (bperday10 : Int) (blegn11 : Bool) (bleg12 : List (List CV)) (c13 : Int) (x17 : CV) (x19 : CV) (i67 : Int) (r14 : CV) (p21 : Bool × List (List CV)) (c111 : List CV) (x112 : CV) (x113 : CV) (x114 : CV) (x115 : CV) (x116 : CV) (x117 : CV) (x118 : CV) (x119 : CV) (p120 : Bool × List (List CV)) (b130 : Bool) (l131 : List (List CV)) (i132 : Int) : Option CV :=
  hold (loopC (E0 lb n 0 984) 0 (loopTemps (sub (B F_flight_Segs) [1, 1, 1, 1, 0, 1, 0, 0, 1, 1, 0, 0, 1, 1, 0, 0]) ++ []) [14] (sub (B F_flight_Segs) [1, 1, 1, 1, 0, 1, 0, 0, 1, 1, 0, 0, 1, 1, 0, 0]) (blockK 2 (blockK 1 (seqK (E0 lb n 0 989) (sub (B F_flight_Segs) [1, 1, 1, 1, 0, 1, 0, 0, 1, 1, 0]) (sub (B F_flight_Segs) [1, 1, 1, 1, 0, 1, 0, 0, 1, 1, 1]) (loopK 0 (loopTemps (sub (B F_flight_Segs) [1, 1, 1, 1, 0, 1, 0, 0]) ++ [11]) [12, 14] (loopC (E0 lb n 0 992) 0 (loopTemps (sub (B F_flight_Segs) [1, 1, 1, 1, 0, 1, 0, 0]) ++ [11]) [12, 14] (sub (B F_flight_Segs) [1, 1, 1, 1, 0, 1, 0, 0]) (blockK 0 (seqK (E0 lb n 0 995) (sub (B F_flight_Segs) [1, 1, 1, 1, 0]) (sub (B F_flight_Segs) [1, 1, 1, 1, 1]) (retK Tryz.prog (R F_flight_Segs) 0 (outK (tightF Tryz.prog F_flight_Segs))))) k109) (blockK 0 (seqK (E0 lb n 0 995) (sub (B F_flight_Segs) [1, 1, 1, 1, 0]) (sub (B F_flight_Segs) [1, 1, 1, 1, 1]) (retK Tryz.prog (R F_flight_Segs) 0 (outK (tightF Tryz.prog F_flight_Segs))))))))) k142 ⟨fr 60 [(0, .val (.agg [.list aairn1 aair2, .list adisn3 adis4])), (1, .val (.agg [.str bcar5, .int .i64 bnum6, .int .i64 bperfro7, .int .i64 bperto9, .int .i64 bperday10, .list blegn11 bleg12])), (2, .val (.int .i64 c13)), (3, .ptr 0 3 0), (4, .ptr 0 4 0), (6, .lst true true 47 []), (7, .val (.int .i64 0)), (8, .val x17), (9, .val x19), (10, .lst true b130 47 l131), (11, .val (.int .i64 i67)), (12, .ptr 0 12 0), (15, .val r14), (16, .val (.agg [.list aairn1 aair2, .list adisn3 adis4])), (17, .val (.agg [.str bcar5, .int .i64 bnum6, .int .i64 bperfro7, .int .i64 bperto9, .int .i64 bperday10, .list blegn11 bleg12])), (18, .val (.int .i64 c13)), (19, .val r14), (20, .val x17), (21, .val x19), (25, .val x17), (26, .val (.int .i64 (p21.2.length : Int))), (27, .val (.int .i64 i67)), (28, .val (.bool (decide (i67 < (p21.2.length : Int))))), (29, .val (.int .i64 i67)), (30, .cptr c111 0), (31, .val (.agg [x112, x113, x114, x115, x116, x117, x118, x119])), (32, .val x17), (33, .val (.int .i64 i67)), (34, .val (.list p120.1 ((p120.2.take ((p120.2.length : Int).toNat)).drop i67.toNat))), (35, .val (.int .i64 (((p120.2.take ((p120.2.length : Int).toNat)).drop i67.toNat).length : Int))), (36, .val (.int .i64 i132))], [bx 60 [(3, some [.val (.list aairn1 aair2), .val (.list adisn3 adis4)]), (4, some [.val (.str bcar5), .val (.int .i64 bnum6), .val (.int .i64 bperfro7), .val (.int .i64 bperto9), .val (.int .i64 bperday10), .val (.list blegn11 bleg12)]), (12, some [.val x112, .val x113, .val x114, .val x115, .val x116, .val x117, .val x118, .val x119])]], KK⟩)

noncomputable def flight_Segs_J3 (lb : Bool) (n : Nat) (k109 : Nat) (aairn1 : Bool) (aair2 : List (List CV)) (adisn3 : Bool) (adis4 : List (List CV)) (bcar5 : List UInt8) (bnum6 : Int) (bperfro7 : Int) (bperto9 : Int) (bperday10 : Int) (blegn11 : Bool) (bleg12 : List (List CV)) (c13 : Int) (x17 : CV) (x19 : CV) (r14 : CV) (p21 : Bool × List (List CV)) (i67 : Int) (b152 : Bool) (l153 : List (List CV)) (i154 : Int) (v155 : CV) (v156 : CV) (v157 : CV) (v158 : CV) (v159 : CV) (v160 : CV) (v161 : CV) (v162 : CV) : Option CV :=
  hold (E0 lb n 0 989 (sub (B F_flight_Segs) [1, 1, 1, 1, 0, 1, 0, 0, 1, 1, 1]) (loopK 0 (loopTemps (sub (B F_flight_Segs) [1, 1, 1, 1, 0, 1, 0, 0]) ++ [11]) [12, 14] (loopC (E0 lb n 0 992) 0 (loopTemps (sub (B F_flight_Segs) [1, 1, 1, 1, 0, 1, 0, 0]) ++ [11]) [12, 14] (sub (B F_flight_Segs) [1, 1, 1, 1, 0, 1, 0, 0]) (blockK 0 (seqK (E0 lb n 0 995) (sub (B F_flight_Segs) [1, 1, 1, 1, 0]) (sub (B F_flight_Segs) [1, 1, 1, 1, 1]) (retK Tryz.prog (R F_flight_Segs) 0 (outK (tightF Tryz.prog F_flight_Segs))))) k109) (blockK 0 (seqK (E0 lb n 0 995) (sub (B F_flight_Segs) [1, 1, 1, 1, 0]) (sub (B F_flight_Segs) [1, 1, 1, 1, 1]) (retK Tryz.prog (R F_flight_Segs) 0 (outK (tightF Tryz.prog F_flight_Segs)))))) ⟨fr 60 [(0, .val (.agg [.list aairn1 aair2, .list adisn3 adis4])), (1, .val (.agg [.str bcar5, .int .i64 bnum6, .int .i64 bperfro7, .int .i64 bperto9, .int .i64 bperday10, .list blegn11 bleg12])), (2, .val (.int .i64 c13)), (3, .ptr 0 3 0), (4, .ptr 0 4 0), (6, .lst true true 47 []), (7, .val (.int .i64 0)), (8, .val x17), (9, .val x19), (10, .lst true b152 47 l153), (11, .val (.int .i64 i154)), (15, .val r14), (16, .val (.agg [.list aairn1 aair2, .list adisn3 adis4])), (17, .val (.agg [.str bcar5, .int .i64 bnum6, .int .i64 bperfro7, .int .i64 bperto9, .int .i64 bperday10, .list blegn11 bleg12])), (18, .val (.int .i64 c13)), (19, .val r14), (20, .val x17), (21, .val x19), (25, .val x17), (26, .val (.int .i64 (p21.2.length : Int))), (27, .val (.int .i64 i67)), (28, .val (.bool (decide (i67 < (p21.2.length : Int)))))], [bx 60 [(3, some [.val (.list aairn1 aair2), .val (.list adisn3 adis4)]), (4, some [.val (.str bcar5), .val (.int .i64 bnum6), .val (.int .i64 bperfro7), .val (.int .i64 bperto9), .val (.int .i64 bperday10), .val (.list blegn11 bleg12)]), (12, some [.val v155, .val v156, .val v157, .val v158, .val v159, .val v160, .val v161, .val v162])]], KK⟩)

theorem flight_Segs_J3_eq (lb : Bool) (n : Nat) (k109 : Nat) (aairn1 : Bool) (aair2 : List (List CV)) (adisn3 : Bool) (adis4 : List (List CV)) (bcar5 : List UInt8) (bnum6 : Int) (bperfro7 : Int) (bperto9 : Int) (bperday10 : Int) (blegn11 : Bool) (bleg12 : List (List CV)) (c13 : Int) (x17 : CV) (x19 : CV) (r14 : CV) (p21 : Bool × List (List CV)) (i67 : Int) (b152 : Bool) (l153 : List (List CV)) (i154 : Int) (v155 : CV) (v156 : CV) (v157 : CV) (v158 : CV) (v159 : CV) (v160 : CV) (v161 : CV) (v162 : CV) :
  flight_Segs_J3 lb n k109 aairn1 aair2 adisn3 adis4 bcar5 bnum6 bperfro7 bperto9 bperday10 blegn11 bleg12 c13 x17 x19 r14 p21 i67 b152 l153 i154 v155 v156 v157 v158 v159 v160 v161 v162 =
 flight_Segs_L1 lb n k109 aairn1 aair2 adisn3 adis4 bcar5 bnum6 bperfro7 bperto9 bperday10 blegn11 bleg12 c13 x17 x19 r14 p21 b152 l153 (IntKind.wrap .i64 (i67 + 1)) := (hold_eq _).trans (by kernel_rfl)

theorem flight_Segs_L2_succ (lb : Bool) (n k142 : Nat) (k109 : Nat) (aairn1 : Bool) (aair2 : List (List CV)) (adisn3 : Bool) (adis4 : List (List CV)) (bcar5 : List UInt8) (bnum6 : Int) (bperfro7 : Int) (bperto9 : Int) (bperday10 : Int) (blegn11 : Bool) (bleg12 : List (List CV)) (c13 : Int) (x17 : CV) (x19 : CV) (i67 : Int) (r14 : CV) (p21 : Bool × List (List CV)) (c111 : List CV) (x112 : CV) (x113 : CV) (x114 : CV) (x115 : CV) (x116 : CV) (x117 : CV) (x118 : CV) (x119 : CV) (p120 : Bool × List (List CV)) (b130 : Bool) (l131 : List (List CV)) (i132 : Int) :
  flight_Segs_L2 lb n (k142 + 1) k109 aairn1 aair2 adisn3 adis4 bcar5 bnum6 bperfro7 bperto9 bperday10 blegn11 bleg12 c13 x17 x19 i67 r14 p21 c111 x112 x113 x114 x115 x116 x117 x118 x119 p120 b130 l131 i132 =
 bif (decide (i132 < (((p120.2.take ((p120.2.length : Int).toNat)).drop i67.toNat).length : Int))) then
 (optO (atL ((p120.2.take ((p120.2.length : Int).toNat)).drop i67.toNat) i132) fun c143 =>
 chkO (c143.length == 8) (
 optO (c143[0]?) fun x144 =>
 optO (c143[1]?) fun x145 =>
 optO (c143[2]?) fun x146 =>
 optO (c143[3]?) fun x147 =>
 optO (c143[4]?) fun x148 =>
 optO (c143[5]?) fun x149 =>
 optO (c143[6]?) fun x150 =>
 optO (c143[7]?) fun x151 =>
 chkO (CV.isCell x115) (
 chkO (CV.isCell x148) (
 chkO (CV.isCell x117) (
 chkO (CV.isCell x150) (
 chkO (room (l131.length + 1) 80) (
 flight_Segs_L2 lb n k142 k109 aairn1 aair2 adisn3 adis4 bcar5 bnum6 bperfro7 bperto9 bperday10 blegn11 bleg12 c13 x17 x19 i67 r14 p21 c111 x112 x113 x114 x115 x116 x117 x118 x119 p120 (b130 && false) (l131 ++ [[CV.str bcar5, CV.int .i64 bnum6, CV.int .i64 c13, x115, x148, x117, x150]]) (IntKind.wrap .i64 (i132 + 1)))))))))
 else
 (flight_Segs_J3 lb n k109 aairn1 aair2 adisn3 adis4 bcar5 bnum6 bperfro7 bperto9 bperday10 blegn11 bleg12 c13 x17 x19 r14 p21 i67 b130 l131 i67 x112 x113 x114 x115 x116 x117 x118 x119) := (hold_eq _).trans (by kernel_rfl)

theorem flight_Segs_L2_zero (lb : Bool) (n : Nat) (k109 : Nat) (aairn1 : Bool) (aair2 : List (List CV)) (adisn3 : Bool) (adis4 : List (List CV)) (bcar5 : List UInt8) (bnum6 : Int) (bperfro7 : Int) (bperto9 : Int) (bperday10 : Int) (blegn11 : Bool) (bleg12 : List (List CV)) (c13 : Int) (x17 : CV) (x19 : CV) (i67 : Int) (r14 : CV) (p21 : Bool × List (List CV)) (c111 : List CV) (x112 : CV) (x113 : CV) (x114 : CV) (x115 : CV) (x116 : CV) (x117 : CV) (x118 : CV) (x119 : CV) (p120 : Bool × List (List CV)) (b130 : Bool) (l131 : List (List CV)) (i132 : Int) :
  flight_Segs_L2 lb n 0 k109 aairn1 aair2 adisn3 adis4 bcar5 bnum6 bperfro7 bperto9 bperday10 blegn11 bleg12 c13 x17 x19 i67 r14 p21 c111 x112 x113 x114 x115 x116 x117 x118 x119 p120 b130 l131 i132 =
 none := (hold_eq _).trans (by kernel_rfl)

noncomputable def flight_Segs_J4 (lb : Bool) (n : Nat) (aairn1 : Bool) (aair2 : List (List CV)) (adisn3 : Bool) (adis4 : List (List CV)) (bcar5 : List UInt8) (bnum6 : Int) (bperfro7 : Int) (bperto9 : Int) (bperday10 : Int) (blegn11 : Bool) (bleg12 : List (List CV)) (c13 : Int) (x17 : CV) (x19 : CV) (r14 : CV) (b163 : Bool) (l164 : List (List CV)) : Option CV :=
  hold (E0 lb n 0 995 (sub (B F_flight_Segs) [1, 1, 1, 1, 1]) (retK Tryz.prog (R F_flight_Segs) 0 (outK (tightF Tryz.prog F_flight_Segs))) ⟨fr 60 [(0, .val (.agg [.list aairn1 aair2, .list adisn3 adis4])), (1, .val (.agg [.str bcar5, .int .i64 bnum6, .int .i64 bperfro7, .int .i64 bperto9, .int .i64 bperday10, .list blegn11 bleg12])), (2, .val (.int .i64 c13)), (3, .ptr 0 3 0), (4, .ptr 0 4 0), (6, .lst true true 47 []), (7, .val (.int .i64 0)), (8, .val x17), (9, .val x19), (10, .lst true b163 47 l164), (15, .val r14), (16, .val (.agg [.list aairn1 aair2, .list adisn3 adis4])), (17, .val (.agg [.str bcar5, .int .i64 bnum6, .int .i64 bperfro7, .int .i64 bperto9, .int .i64 bperday10, .list blegn11 bleg12])), (18, .val (.int .i64 c13)), (19, .val r14), (20, .val x17), (21, .val x19)], [bx 60 [(3, some [.val (.list aairn1 aair2), .val (.list adisn3 adis4)]), (4, some [.val (.str bcar5), .val (.int .i64 bnum6), .val (.int .i64 bperfro7), .val (.int .i64 bperto9), .val (.int .i64 bperday10), .val (.list blegn11 bleg12)])]], KK⟩)

theorem flight_Segs_J4_eq (lb : Bool) (n : Nat) (aairn1 : Bool) (aair2 : List (List CV)) (adisn3 : Bool) (adis4 : List (List CV)) (bcar5 : List UInt8) (bnum6 : Int) (bperfro7 : Int) (bperto9 : Int) (bperday10 : Int) (blegn11 : Bool) (bleg12 : List (List CV)) (c13 : Int) (x17 : CV) (x19 : CV) (r14 : CV) (b163 : Bool) (l164 : List (List CV)) :
  flight_Segs_J4 lb n aairn1 aair2 adisn3 adis4 bcar5 bnum6 bperfro7 bperto9 bperday10 blegn11 bleg12 c13 x17 x19 r14 b163 l164 =
 some (.tup [.list b163 l164, .int .i64 0]) := (hold_eq _).trans (by kernel_rfl)

theorem flight_Segs_L1_succ (lb : Bool) (n k109 : Nat) (aairn1 : Bool) (aair2 : List (List CV)) (adisn3 : Bool) (adis4 : List (List CV)) (bcar5 : List UInt8) (bnum6 : Int) (bperfro7 : Int) (bperto9 : Int) (bperday10 : Int) (blegn11 : Bool) (bleg12 : List (List CV)) (c13 : Int) (x17 : CV) (x19 : CV) (r14 : CV) (p21 : Bool × List (List CV)) (b65 : Bool) (l66 : List (List CV)) (i67 : Int) :
  flight_Segs_L1 lb n (k109 + 1) aairn1 aair2 adisn3 adis4 bcar5 bnum6 bperfro7 bperto9 bperday10 blegn11 bleg12 c13 x17 x19 r14 p21 b65 l66 i67 =
 bif (decide (i67 < (p21.2.length : Int))) then
 (optO (CV.asL x17) fun p110 =>
 optO (atL p110.2 i67) fun c111 =>
 chkO (c111.length == 8) (
 optO (c111[0]?) fun x112 =>
 optO (c111[1]?) fun x113 =>
 optO (c111[2]?) fun x114 =>
 optO (c111[3]?) fun x115 =>
 optO (c111[4]?) fun x116 =>
 optO (c111[5]?) fun x117 =>
 optO (c111[6]?) fun x118 =>
 optO (c111[7]?) fun x119 =>
 optO (CV.asL x17) fun p120 =>
 chkO (p120.2.all (·.length == 8)) (
 chkO (decide ((0 : Int) ≤ i67 ∧ i67 ≤ (p120.2.length : Int))) (
 flight_Segs_L2 lb n n k109 aairn1 aair2 adisn3 adis4 bcar5 bnum6 bperfro7 bperto9 bperday10 blegn11 bleg12 c13 x17 x19 i67 r14 p21 c111 x112 x113 x114 x115 x116 x117 x118 x119 p120 b65 l66 0))))
 else
 (flight_Segs_J4 lb n aairn1 aair2 adisn3 adis4 bcar5 bnum6 bperfro7 bperto9 bperday10 blegn11 bleg12 c13 x17 x19 r14 b65 l66) := (hold_eq _).trans (by kernel_rfl)

theorem flight_Segs_L1_zero (lb : Bool) (n : Nat) (aairn1 : Bool) (aair2 : List (List CV)) (adisn3 : Bool) (adis4 : List (List CV)) (bcar5 : List UInt8) (bnum6 : Int) (bperfro7 : Int) (bperto9 : Int) (bperday10 : Int) (blegn11 : Bool) (bleg12 : List (List CV)) (c13 : Int) (x17 : CV) (x19 : CV) (r14 : CV) (p21 : Bool × List (List CV)) (b65 : Bool) (l66 : List (List CV)) (i67 : Int) :
  flight_Segs_L1 lb n 0 aairn1 aair2 adisn3 adis4 bcar5 bnum6 bperfro7 bperto9 bperday10 blegn11 bleg12 c13 x17 x19 r14 p21 b65 l66 i67 =
 none := (hold_eq _).trans (by kernel_rfl)

theorem flight_Segs_eq (lb : Bool) (n : Nat) (aairn1 : Bool) (aair2 : List (List CV)) (adisn3 : Bool) (adis4 : List (List CV)) (bcar5 : List UInt8) (bnum6 : Int) (bperfro7 : Int) (bperto9 : Int) (bperday10 : Int) (blegn11 : Bool) (bleg12 : List (List CV)) (c13 : Int) :
  top lb n F_flight_Segs [.agg [.list aairn1 aair2, .list adisn3 adis4], .agg [.str bcar5, .int .i64 bnum6, .int .i64 bperfro7, .int .i64 bperto9, .int .i64 bperday10, .list blegn11 bleg12], .int .i64 c13] =
 optO (C lb n F_flight_Legs [.agg [.list aairn1 aair2, .list adisn3 adis4], .agg [.str bcar5, .int .i64 bnum6, .int .i64 bperfro7, .int .i64 bperto9, .int .i64 bperday10, .list blegn11 bleg12], .int .i64 c13]) fun r14 =>
 optO (CV.asT r14) fun t15 =>
 optO (t15[0]?) fun x17 =>
 optO (CV.asT r14) fun t18 =>
 optO (t18[1]?) fun x19 =>
 optO (CV.asI .i64 x19) fun i20 =>
 bif (i20 != 0) then
 (some (.tup [.list true [], x19]))
 else
 (optO (CV.asL x17) fun p21 =>
 flight_Segs_L1 lb n n aairn1 aair2 adisn3 adis4 bcar5 bnum6 bperfro7 bperto9 bperday10 blegn11 bleg12 c13 x17 x19 r14 p21 true [] 0) := by kernel_rfl

/-! airline/airlineref07.seg -/
theorem r07_seg_eq (lb : Bool) (n : Nat) (an1 : Bool) (a2 : List (List CV)) (b3 : Int) (c4 : Int) :
  top lb n F_r07_seg [.list an1 a2, .int .i64 b3, .int .i64 c4] =
 optO (atL a2 b3) fun c5 =>
 chkO (c5.length == 8) (
 optO (c5[0]?) fun x6 =>
 optO (atL a2 b3) fun c7 =>
 chkO (c7.length == 8) (
 optO (c7[1]?) fun x9 =>
 optO (atL a2 b3) fun c10 =>
 chkO (c10.length == 8) (
 optO (c10[2]?) fun x11 =>
 optO (atL a2 b3) fun c12 =>
 chkO (c12.length == 8) (
 optO (c12[3]?) fun x13 =>
 optO (atL a2 c4) fun c14 =>
 chkO (c14.length == 8) (
 optO (c14[4]?) fun x15 =>
 optO (atL a2 b3) fun c17 =>
 chkO (c17.length == 8) (
 optO (c17[5]?) fun x18 =>
 optO (atL a2 c4) fun c19 =>
 chkO (c19.length == 8) (
 optO (c19[6]?) fun x20 =>
 chkO (CV.isCell x6) (
 chkO (CV.isCell x9) (
 chkO (CV.isCell x11) (
 chkO (CV.isCell x13) (
 chkO (CV.isCell x15) (
 chkO (CV.isCell x18) (
 chkO (CV.isCell x20) (
 some (.agg [x6, x9, x11, x13, x15, x18, x20]))))))))))))))) := by kernel_rfl

/-! airline/airlinelaw07.right -/
theorem l07_right_eq (lb : Bool) (n : Nat) (aairn1 : Bool) (aair2 : List (List CV)) (adisn3 : Bool) (adis4 : List (List CV)) (bcar5 : List UInt8) (bnum6 : Int) (bperfro7 : Int) (bperto9 : Int) (bperday10 : Int) (blegn11 : Bool) (bleg12 : List (List CV)) :
  top lb n F_l07_right [.agg [.list aairn1 aair2, .list adisn3 adis4], .agg [.str bcar5, .int .i64 bnum6, .int .i64 bperfro7, .int .i64 bperto9, .int .i64 bperday10, .list blegn11 bleg12]] =
 optO (C lb n F_r07_Big [.agg [.list aairn1 aair2, .list adisn3 adis4], .agg [.str bcar5, .int .i64 bnum6, .int .i64 bperfro7, .int .i64 bperto9, .int .i64 bperday10, .list blegn11 bleg12]]) fun r13 =>
 optO (CV.asB r13) fun b14 =>
 bif (!b14) then
 (optO (C lb n F_r06_Check [.agg [.list aairn1 aair2, .list adisn3 adis4]]) fun r15 =>
 optO (CV.asL r15) fun p17 =>
 bif ((p17.2.length : Int) == 0) then
 (optO (C lb n F_r07_Check [.agg [.list aairn1 aair2, .list adisn3 adis4], .agg [.str bcar5, .int .i64 bnum6, .int .i64 bperfro7, .int .i64 bperto9, .int .i64 bperday10, .list blegn11 bleg12]]) fun r18 =>
 optO (CV.asL r18) fun p19 =>
 some (.bool ((p19.2.length : Int) == 0)))
 else
 (some (.bool false)))
 else
 (some (.bool false)) := by kernel_rfl

/-! airline/airlinelaw07.FlightLegs -/
noncomputable def l07_FlightLegs_L1 (lb : Bool) (n : Nat) (k123 : Nat) (aairn1 : Bool) (aair2 : List (List CV)) (adisn3 : Bool) (adis4 : List (List CV)) (bcar5 : List UInt8) (bnum6 : Int) (bperfro7 : Int) (bperto9 : Int) (bperday10 : Int) (blegn11 : Bool) (bleg12 : List (List CV)) (c13 : Int) (x20 : CV) (x22 : CV) (x25 : CV) (x27 : CV) (x30 : CV) (x33 : CV) (x36 : CV) (x38 : CV) (r18 : CV) (r23 : CV) (r28 : CV) (r34 : CV) (i85 : Int) : Option CV :=
  hold (loopC (E0 lb n 0 989) 0 (loopTemps (sub (B F_l07_FlightLegs) [1, 1, 1, 1, 1, 1, 1, 0, 1, 0, 0]) ++ []) [] (sub (B F_l07_FlightLegs) [1, 1, 1, 1, 1, 1, 1, 0, 1, 0, 0]) (blockK 0 (seqK (E0 lb n 0 992) (sub (B F_l07_FlightLegs) [1, 1, 1, 1, 1, 1, 1, 0]) (sub (B F_l07_FlightLegs) [1, 1, 1, 1, 1, 1, 1, 1]) (retK Tryz.prog (R F_l07_FlightLegs) 0 (outK (tightF Tryz.prog F_l07_FlightLegs))))) k123 ⟨fr 103 [(0, .val (.agg [.list aairn1 aair2, .list adisn3 adis4])), (1, .val (.agg [.str bcar5, .int .i64 bnum6, .int .i64 bperfro7, .int .i64 bperto9, .int .i64 bperday10, .list blegn11 bleg12])), (2, .val (.int .i64 c13)), (3, .ptr 0 3 0), (4, .ptr 0 4 0), (6, .val (.bool false)), (7, .val x20), (8, .val x22), (9, .val x25), (10, .val x27), (11, .val x30), (12, .val x33), (13, .val x36), (14, .val x38), (15, .val (.int .i64 i85)), (22, .val r18), (23, .val (.agg [.list aairn1 aair2, .list adisn3 adis4])), (24, .val (.agg [.str bcar5, .int .i64 bnum6, .int .i64 bperfro7, .int .i64 bperto9, .int .i64 bperday10, .list blegn11 bleg12])), (25, .val (.int .i64 c13)), (26, .val r18), (27, .val x20), (28, .val x22), (29, .val r23), (30, .val (.agg [.list aairn1 aair2, .list adisn3 adis4])), (31, .val (.agg [.str bcar5, .int .i64 bnum6, .int .i64 bperfro7, .int .i64 bperto9, .int .i64 bperday10, .list blegn11 bleg12])), (32, .val (.int .i64 c13)), (33, .val r23), (34, .val x25), (35, .val x27), (36, .val r28), (37, .val (.agg [.list aairn1 aair2, .list adisn3 adis4])), (38, .val (.agg [.str bcar5, .int .i64 bnum6, .int .i64 bperfro7, .int .i64 bperto9, .int .i64 bperday10, .list blegn11 bleg12])), (39, .val (.int .i64 c13)), (40, .val r28), (41, .val x30), (42, .val x33), (43, .val r34), (44, .val (.agg [.list aairn1 aair2, .list adisn3 adis4])), (45, .val (.agg [.str bcar5, .int .i64 bnum6, .int .i64 bperfro7, .int .i64 bperto9, .int .i64 bperday10, .list blegn11 bleg12])), (46, .val (.int .i64 c13)), (47, .val r34), (48, .val x36), (49, .val x38)], [bx 103 [(3, some [.val (.list aairn1 aair2), .val (.list adisn3 adis4)]), (4, some [.val (.str bcar5), .val (.int .i64 bnum6), .val (.int .i64 bperfro7), .val (.int .i64 bperto9), .val (.int .i64 bperday10), .val (.list blegn11 bleg12)])]], KK⟩)

noncomputable def l07_FlightLegs_J2 (lb : Bool) (n : Nat) (aairn1 : Bool) (aair2 : List (List CV)) (adisn3 : Bool) (adis4 : List (List CV)) (bcar5 : List UInt8) (bnum6 : Int) (bperfro7 : Int) (bperto9 : Int) (bperday10 : Int) (blegn11 : Bool) (bleg12 : List (List CV)) (c13 : Int) (x20 : CV) (x22 : CV) (x25 : CV) (x27 : CV) (x30 : CV) (x33 : CV) (x36 : CV) (x38 : CV) (r18 : CV) (r23 : CV) (r28 : CV) (r34 : CV) (i161 : Int) : Option CV :=
  hold (E0 lb n 0 992 (sub (B F_l07_FlightLegs) [1, 1, 1, 1, 1, 1, 1, 1]) (retK Tryz.prog (R F_l07_FlightLegs) 0 (outK (tightF Tryz.prog F_l07_FlightLegs))) ⟨fr 103 [(0, .val (.agg [.list aairn1 aair2, .list adisn3 adis4])), (1, .val (.agg [.str bcar5, .int .i64 bnum6, .int .i64 bperfro7, .int .i64 bperto9, .int .i64 bperday10, .list blegn11 bleg12])), (2, .val (.int .i64 c13)), (3, .ptr 0 3 0), (4, .ptr 0 4 0), (6, .val (.bool false)), (7, .val x20), (8, .val x22), (9, .val x25), (10, .val x27), (11, .val x30), (12, .val x33), (13, .val x36), (14, .val x38), (15, .val (.int .i64 i161)), (22, .val r18), (23, .val (.agg [.list aairn1 aair2, .list adisn3 adis4])), (24, .val (.agg [.str bcar5, .int .i64 bnum6, .int .i64 bperfro7, .int .i64 bperto9, .int .i64 bperday10, .list blegn11 bleg12])), (25, .val (.int .i64 c13)), (26, .val r18), (27, .val x20), (28, .val x22), (29, .val r23), (30, .val (.agg [.list aairn1 aair2, .list adisn3 adis4])), (31, .val (.agg [.str bcar5, .int .i64 bnum6, .int .i64 bperfro7, .int .i64 bperto9, .int .i64 bperday10, .list blegn11 bleg12])), (32, .val (.int .i64 c13)), (33, .val r23), (34, .val x25), (35, .val x27), (36, .val r28), (37, .val (.agg [.list aairn1 aair2, .list adisn3 adis4])), (38, .val (.agg [.str bcar5, .int .i64 bnum6, .int .i64 bperfro7, .int .i64 bperto9, .int .i64 bperday10, .list blegn11 bleg12])), (39, .val (.int .i64 c13)), (40, .val r28), (41, .val x30), (42, .val x33), (43, .val r34), (44, .val (.agg [.list aairn1 aair2, .list adisn3 adis4])), (45, .val (.agg [.str bcar5, .int .i64 bnum6, .int .i64 bperfro7, .int .i64 bperto9, .int .i64 bperday10, .list blegn11 bleg12])), (46, .val (.int .i64 c13)), (47, .val r34), (48, .val x36), (49, .val x38)], [bx 103 [(3, some [.val (.list aairn1 aair2), .val (.list adisn3 adis4)]), (4, some [.val (.str bcar5), .val (.int .i64 bnum6), .val (.int .i64 bperfro7), .val (.int .i64 bperto9), .val (.int .i64 bperday10), .val (.list blegn11 bleg12)])]], KK⟩)

noncomputable def l07_FlightLegs_L3 (lb : Bool) (n : Nat) (k229 : Nat) (aairn1 : Bool) (aair2 : List (List CV)) (adisn3 : Bool) (adis4 : List (List CV)) (bcar5 : List UInt8) (bnum6 : Int) (bperfro7 : Int) (bperto9 : Int) (bperday10 : Int) (blegn11 : Bool) (bleg12 : List (List CV)) (c13 : Int) (x20 : CV) (x22 : CV) (x25 : CV) (x27 : CV) (x30 : CV) (x33 : CV) (x36 : CV) (x38 : CV) (i161 : Int) (r18 : CV) (r23 : CV) (r28 : CV) (r34 : CV) (i195 : Int) : Option CV :=
  hold (loopC (E0 lb n 0 988) 0 (loopTemps (sub (B F_l07_FlightLegs) [1, 1, 1, 1, 1, 1, 1, 1, 0, 1, 0, 0]) ++ []) [] (sub (B F_l07_FlightLegs) [1, 1, 1, 1, 1, 1, 1, 1, 0, 1, 0, 0]) (blockK 2 (seqK (E0 lb n 0 991) (sub (B F_l07_FlightLegs) [1, 1, 1, 1, 1, 1, 1, 1, 0]) (sub (B F_l07_FlightLegs) [1, 1, 1, 1, 1, 1, 1, 1, 1]) (retK Tryz.prog (R F_l07_FlightLegs) 0 (outK (tightF Tryz.prog F_l07_FlightLegs))))) k229 ⟨fr 103 [(0, .val (.agg [.list aairn1 aair2, .list adisn3 adis4])), (1, .val (.agg [.str bcar5, .int .i64 bnum6, .int .i64 bperfro7, .int .i64 bperto9, .int .i64 bperday10, .list blegn11 bleg12])), (2, .val (.int .i64 c13)), (3, .ptr 0 3 0), (4, .ptr 0 4 0), (6, .val (.bool false)), (7, .val x20), (8, .val x22), (9, .val x25), (10, .val x27), (11, .val x30), (12, .val x33), (13, .val x36), (14, .val x38), (15, .val (.int .i64 i161)), (16, .val (.int .i64 i195)), (22, .val r18), (23, .val (.agg [.list aairn1 aair2, .list adisn3 adis4])), (24, .val (.agg [.str bcar5, .int .i64 bnum6, .int .i64 bperfro7, .int .i64 bperto9, .int .i64 bperday10, .list blegn11 bleg12])), (25, .val (.int .i64 c13)), (26, .val r18), (27, .val x20), (28, .val x22), (29, .val r23), (30, .val (.agg [.list aairn1 aair2, .list adisn3 adis4])), (31, .val (.agg [.str bcar5, .int .i64 bnum6, .int .i64 bperfro7, .int .i64 bperto9, .int .i64 bperday10, .list blegn11 bleg12])), (32, .val (.int .i64 c13)), (33, .val r23), (34, .val x25), (35, .val x27), (36, .val r28), (37, .val (.agg [.list aairn1 aair2, .list adisn3 adis4])), (38, .val (.agg [.str bcar5, .int .i64 bnum6, .int .i64 bperfro7, .int .i64 bperto9, .int .i64 bperday10, .list blegn11 bleg12])), (39, .val (.int .i64 c13)), (40, .val r28), (41, .val x30), (42, .val x33), (43, .val r34), (44, .val (.agg [.list aairn1 aair2, .list adisn3 adis4])), (45, .val (.agg [.str bcar5, .int .i64 bnum6, .int .i64 bperfro7, .int .i64 bperto9, .int .i64 bperday10, .list blegn11 bleg12])), (46, .val (.int .i64 c13)), (47, .val r34), (48, .val x36), (49, .val x38)], [bx 103 [(3, some [.val (.list aairn1 aair2), .val (.list adisn3 adis4)]), (4, some [.val (.str bcar5), .val (.int .i64 bnum6), .val (.int .i64 bperfro7), .val (.int .i64 bperto9), .val (.int .i64 bperday10), .val (.list blegn11 bleg12)])]], KK⟩)

noncomputable def l07_FlightLegs_J4 (lb : Bool) (n : Nat) (aairn1 : Bool) (aair2 : List (List CV)) (adisn3 : Bool) (adis4 : List (List CV)) (bcar5 : List UInt8) (bnum6 : Int) (bperfro7 : Int) (bperto9 : Int) (bperday10 : Int) (blegn11 : Bool) (bleg12 : List (List CV)) (c13 : Int) (x20 : CV) (x22 : CV) (x25 : CV) (x27 : CV) (x30 : CV) (x33 : CV) (x36 : CV) (x38 : CV) (i161 : Int) (r18 : CV) (r23 : CV) (r28 : CV) (r34 : CV) (i263 : Int) : Option CV :=
  hold (E0 lb n 0 991 (sub (B F_l07_FlightLegs) [1, 1, 1, 1, 1, 1, 1, 1, 1]) (retK Tryz.prog (R F_l07_FlightLegs) 0 (outK (tightF Tryz.prog F_l07_FlightLegs))) ⟨fr 103 [(0, .val (.agg [.list aairn1 aair2, .list adisn3 adis4])), (1, .val (.agg [.str bcar5, .int .i64 bnum6, .int .i64 bperfro7, .int .i64 bperto9, .int .i64 bperday10, .list blegn11 bleg12])), (2, .val (.int .i64 c13)), (3, .ptr 0 3 0), (4, .ptr 0 4 0), (6, .val (.bool false)), (7, .val x20), (8, .val x22), (9, .val x25), (10, .val x27), (11, .val x30), (12, .val x33), (13, .val x36), (14, .val x38), (15, .val (.int .i64 i161)), (16, .val (.int .i64 i263)), (22, .val r18), (23, .val (.agg [.list aairn1 aair2, .list adisn3 adis4])), (24, .val (.agg [.str bcar5, .int .i64 bnum6, .int .i64 bperfro7, .int .i64 bperto9, .int .i64 bperday10, .list blegn11 bleg12])), (25, .val (.int .i64 c13)), (26, .val r18), (27, .val x20), (28, .val x22), (29, .val r23), (30, .val (.agg [.list aairn1 aair2, .list adisn3 adis4])), (31, .val (.agg [.str bcar5, .int .i64 bnum6, .int .i64 bperfro7, .int .i64 bperto9, .int .i64 bperday10, .list blegn11 bleg12])), (32, .val (.int .i64 c13)), (33, .val r23), (34, .val x25), (35, .val x27), (36, .val r28), (37, .val (.agg [.list aairn1 aair2, .list adisn3 adis4])), (38, .val (.agg [.str bcar5, .int .i64 bnum6, .int .i64 bperfro7, .int .i64 bperto9, .int .i64 bperday10, .list blegn11 bleg12])), (39, .val (.int .i64 c13)), (40, .val r28), (41, .val x30), (42, .val x33), (43, .val r34), (44, .val (.agg [.list aairn1 aair2, .list adisn3 adis4])), (45, .val (.agg [.str bcar5, .int .i64 bnum6, .int .i64 bperfro7, .int .i64 bperto9, .int .i64 bperday10, .list blegn11 bleg12])), (46, .val (.int .i64 c13)), (47, .val r34), (48, .val x36), (49, .val x38)], [bx 103 [(3, some [.val (.list aairn1 aair2), .val (.list adisn3 adis4)]), (4, some [.val (.str bcar5), .val (.int .i64 bnum6), .val (.int .i64 bperfro7), .val (.int .i64 bperto9), .val (.int .i64 bperday10), .val (.list blegn11 bleg12)])]], KK⟩)

theorem l07_FlightLegs_J4_eq (lb : Bool) (n : Nat) (aairn1 : Bool) (aair2 : List (List CV)) (adisn3 : Bool) (adis4 : List (List CV)) (bcar5 : List UInt8) (bnum6 : Int) (bperfro7 : Int) (bperto9 : Int) (bperday10 : Int) (blegn11 : Bool) (bleg12 : List (List CV)) (c13 : Int) (x20 : CV) (x22 : CV) (x25 : CV) (x27 : CV) (x30 : CV) (x33 : CV) (x36 : CV) (x38 : CV) (i161 : Int) (r18 : CV) (r23 : CV) (r28 : CV) (r34 : CV) (i263 : Int) :
  l07_FlightLegs_J4 lb n aairn1 aair2 adisn3 adis4 bcar5 bnum6 bperfro7 bperto9 bperday10 blegn11 bleg12 c13 x20 x22 x25 x27 x30 x33 x36 x38 i161 r18 r23 r28 r34 i263 =
 optO (C lb n F_l07_awake []) fun r264 =>
 some (r264) := (hold_eq _).trans (by kernel_rfl)

theorem l07_FlightLegs_L3_succ (lb : Bool) (n k229 : Nat) (aairn1 : Bool) (aair2 : List (List CV)) (adisn3 : Bool) (adis4 : List (List CV)) (bcar5 : List UInt8) (bnum6 : Int) (bperfro7 : Int) (bperto9 : Int) (bperday10 : Int) (blegn11 : Bool) (bleg12 : List (List CV)) (c13 : Int) (x20 : CV) (x22 : CV) (x25 : CV) (x27 : CV) (x30 : CV) (x33 : CV) (x36 : CV) (x38 : CV) (i161 : Int) (r18 : CV) (r23 : CV) (r28 : CV) (r34 : CV) (i195 : Int) :
  l07_FlightLegs_L3 lb n (k229 + 1) aairn1 aair2 adisn3 adis4 bcar5 bnum6 bperfro7 bperto9 bperday10 blegn11 bleg12 c13 x20 x22 x25 x27 x30 x33 x36 x38 i161 r18 r23 r28 r34 i195 =
 optO (CV.asL x30) fun p230 =>
 bif (decide (i195 < (p230.2.length : Int))) then
 (optO (CV.asL x30) fun p231 =>
 optO (atL p231.2 i195) fun c232 =>
 chkO (c232.length == 7) (
 optO (c232[0]?) fun x233 =>
 optO (c232[1]?) fun x234 =>
 optO (c232[2]?) fun x235 =>
 optO (c232[3]?) fun x236 =>
 optO (c232[4]?) fun x237 =>
 optO (c232[5]?) fun x238 =>
 optO (c232[6]?) fun x239 =>
 optO (CV.asL x36) fun p240 =>
 optO (atL p240.2 i195) fun c241 =>
 chkO (c241.length == 7) (
 optO (c241[0]?) fun x242 =>
 optO (c241[1]?) fun x243 =>
 optO (c241[2]?) fun x244 =>
 optO (c241[3]?) fun x245 =>
 optO (c241[4]?) fun x246 =>
 optO (c241[5]?) fun x247 =>
 optO (c241[6]?) fun x248 =>
 optO (CV.asS x233) fun s249 =>
 optO (CV.asS x242) fun s250 =>
 optO (CV.asI .i64 x234) fun i251 =>
 optO (CV.asI .i64 x243) fun i252 =>
 optO (CV.asI .i64 x235) fun i253 =>
 optO (CV.asI .i64 x244) fun i254 =>
 optO (CV.asS x236) fun s255 =>
 optO (CV.asS x245) fun s256 =>
 optO (CV.asS x237) fun s257 =>
 optO (CV.asS x246) fun s258 =>
 optO (CV.asI .i64 x238) fun i259 =>
 optO (CV.asI .i64 x247) fun i260 =>
 optO (CV.asI .i64 x239) fun i261 =>
 optO (CV.asI .i64 x248) fun i262 =>
 bif (!((s249 == s250) && ((i251 == i252) && ((i253 == i254) && ((s255 == s256) && ((s257 == s258) && ((i259 == i260) && ((i261 == i262) && true)))))))) then
 (some (.bool false))
 else
 (l07_FlightLegs_L3 lb n k229 aairn1 aair2 adisn3 adis4 bcar5 bnum6 bperfro7 bperto9 bperday10 blegn11 bleg12 c13 x20 x22 x25 x27 x30 x33 x36 x38 i161 r18 r23 r28 r34 (IntKind.wrap .i64 (i195 + 1))))))
 else
 (l07_FlightLegs_J4 lb n aairn1 aair2 adisn3 adis4 bcar5 bnum6 bperfro7 bperto9 bperday10 blegn11 bleg12 c13 x20 x22 x25 x27 x30 x33 x36 x38 i161 r18 r23 r28 r34 i195) := (hold_eq _).trans (by kernel_rfl)

theorem l07_FlightLegs_L3_zero (lb : Bool) (n : Nat) (aairn1 : Bool) (aair2 : List (List CV)) (adisn3 : Bool) (adis4 : List (List CV)) (bcar5 : List UInt8) (bnum6 : Int) (bperfro7 : Int) (bperto9 : Int) (bperday10 : Int) (blegn11 : Bool) (bleg12 : List (List CV)) (c13 : Int) (x20 : CV) (x22 : CV) (x25 : CV) (x27 : CV) (x30 : CV) (x33 : CV) (x36 : CV) (x38 : CV) (i161 : Int) (r18 : CV) (r23 : CV) (r28 : CV) (r34 : CV) (i195 : Int) :
  l07_FlightLegs_L3 lb n 0 aairn1 aair2 adisn3 adis4 bcar5 bnum6 bperfro7 bperto9 bperday10 blegn11 bleg12 c13 x20 x22 x25 x27 x30 x33 x36 x38 i161 r18 r23 r28 r34 i195 =
 none := (hold_eq _).trans (by kernel_rfl)

theorem l07_FlightLegs_J2_eq (lb : Bool) (n : Nat) (aairn1 : Bool) (aair2 : List (List CV)) (adisn3 : Bool) (adis4 : List (List CV)) (bcar5 : List UInt8) (bnum6 : Int) (bperfro7 : Int) (bperto9 : Int) (bperday10 : Int) (blegn11 : Bool) (bleg12 : List (List CV)) (c13 : Int) (x20 : CV) (x22 : CV) (x25 : CV) (x27 : CV) (x30 : CV) (x33 : CV) (x36 : CV) (x38 : CV) (r18 : CV) (r23 : CV) (r28 : CV) (r34 : CV) (i161 : Int) :
  l07_FlightLegs_J2 lb n aairn1 aair2 adisn3 adis4 bcar5 bnum6 bperfro7 bperto9 bperday10 blegn11 bleg12 c13 x20 x22 x25 x27 x30 x33 x36 x38 r18 r23 r28 r34 i161 =
 l07_FlightLegs_L3 lb n n aairn1 aair2 adisn3 adis4 bcar5 bnum6 bperfro7 bperto9 bperday10 blegn11 bleg12 c13 x20 x22 x25 x27 x30 x33 x36 x38 i161 r18 r23 r28 r34 0 := (hold_eq _).trans (by kernel_rfl)

theorem l07_FlightLegs_L1_succ (lb : Bool) (n k123 : Nat) (aairn1 : Bool) (aair2 : List (List CV)) (adisn3 : Bool) (adis4 : List (List CV)) (bcar5 : List UInt8) (bnum6 : Int) (bperfro7 : Int) (bperto9 : Int) (bperday10 : Int) (blegn11 : Bool) (bleg12 : List (List CV)) (c13 : Int) (x20 : CV) (x22 : CV) (x25 : CV) (x27 : CV) (x30 : CV) (x33 : CV) (x36 : CV) (x38 : CV) (r18 : CV) (r23 : CV) (r28 : CV) (r34 : CV) (i85 : Int) :
  l07_FlightLegs_L1 lb n (k123 + 1) aairn1 aair2 adisn3 adis4 bcar5 bnum6 bperfro7 bperto9 bperday10 blegn11 bleg12 c13 x20 x22 x25 x27 x30 x33 x36 x38 r18 r23 r28 r34 i85 =
 optO (CV.asL x20) fun p124 =>
 bif (decide (i85 < (p124.2.length : Int))) then
 (optO (CV.asL x20) fun p125 =>
 optO (atL p125.2 i85) fun c126 =>
 chkO (c126.length == 8) (
 optO (c126[0]?) fun x127 =>
 optO (c126[1]?) fun x128 =>
 optO (c126[2]?) fun x129 =>
 optO (c126[3]?) fun x130 =>
 optO (c126[4]?) fun x131 =>
 optO (c126[5]?) fun x132 =>
 optO (c126[6]?) fun x133 =>
 optO (c126[7]?) fun x134 =>
 optO (CV.asL x25) fun p135 =>
 optO (atL p135.2 i85) fun c136 =>
 chkO (c136.length == 8) (
 optO (c136[0]?) fun x137 =>
 optO (c136[1]?) fun x138 =>
 optO (c136[2]?) fun x139 =>
 optO (c136[3]?) fun x140 =>
 optO (c136[4]?) fun x141 =>
 optO (c136[5]?) fun x142 =>
 optO (c136[6]?) fun x143 =>
 optO (c136[7]?) fun x144 =>
 optO (CV.asS x127) fun s145 =>
 optO (CV.asS x137) fun s146 =>
 optO (CV.asI .i64 x128) fun i147 =>
 optO (CV.asI .i64 x138) fun i148 =>
 optO (CV.asI .i64 x129) fun i149 =>
 optO (CV.asI .i64 x139) fun i150 =>
 optO (CV.asS x130) fun s151 =>
 optO (CV.asS x140) fun s152 =>
 optO (CV.asS x131) fun s153 =>
 optO (CV.asS x141) fun s154 =>
 optO (CV.asI .i64 x132) fun i155 =>
 optO (CV.asI .i64 x142) fun i156 =>
 optO (CV.asI .i64 x133) fun i157 =>
 optO (CV.asI .i64 x143) fun i158 =>
 optO (CV.asS x134) fun s159 =>
 optO (CV.asS x144) fun s160 =>
 bif (!((s145 == s146) && ((i147 == i148) && ((i149 == i150) && ((s151 == s152) && ((s153 == s154) && ((i155 == i156) && ((i157 == i158) && ((s159 == s160) && true))))))))) then
 (some (.bool false))
 else
 (l07_FlightLegs_L1 lb n k123 aairn1 aair2 adisn3 adis4 bcar5 bnum6 bperfro7 bperto9 bperday10 blegn11 bleg12 c13 x20 x22 x25 x27 x30 x33 x36 x38 r18 r23 r28 r34 (IntKind.wrap .i64 (i85 + 1))))))
 else
 (l07_FlightLegs_J2 lb n aairn1 aair2 adisn3 adis4 bcar5 bnum6 bperfro7 bperto9 bperday10 blegn11 bleg12 c13 x20 x22 x25 x27 x30 x33 x36 x38 r18 r23 r28 r34 i85) := (hold_eq _).trans (by kernel_rfl)

theorem l07_FlightLegs_L1_zero (lb : Bool) (n : Nat) (aairn1 : Bool) (aair2 : List (List CV)) (adisn3 : Bool) (adis4 : List (List CV)) (bcar5 : List UInt8) (bnum6 : Int) (bperfro7 : Int) (bperto9 : Int) (bperday10 : Int) (blegn11 : Bool) (bleg12 : List (List CV)) (c13 : Int) (x20 : CV) (x22 : CV) (x25 : CV) (x27 : CV) (x30 : CV) (x33 : CV) (x36 : CV) (x38 : CV) (r18 : CV) (r23 : CV) (r28 : CV) (r34 : CV) (i85 : Int) :
  l07_FlightLegs_L1 lb n 0 aairn1 aair2 adisn3 adis4 bcar5 bnum6 bperfro7 bperto9 bperday10 blegn11 bleg12 c13 x20 x22 x25 x27 x30 x33 x36 x38 r18 r23 r28 r34 i85 =
 none := (hold_eq _).trans (by kernel_rfl)

theorem l07_FlightLegs_eq (lb : Bool) (n : Nat) (aairn1 : Bool) (aair2 : List (List CV)) (adisn3 : Bool) (adis4 : List (List CV)) (bcar5 : List UInt8) (bnum6 : Int) (bperfro7 : Int) (bperto9 : Int) (bperday10 : Int) (blegn11 : Bool) (bleg12 : List (List CV)) (c13 : Int) :
  top lb n F_l07_FlightLegs [.agg [.list aairn1 aair2, .list adisn3 adis4], .agg [.str bcar5, .int .i64 bnum6, .int .i64 bperfro7, .int .i64 bperto9, .int .i64 bperday10, .list blegn11 bleg12], .int .i64 c13] =
 optO (C lb n F_l07_right [.agg [.list aairn1 aair2, .list adisn3 adis4], .agg [.str bcar5, .int .i64 bnum6, .int .i64 bperfro7, .int .i64 bperto9, .int .i64 bperday10, .list blegn11 bleg12]]) fun r14 =>
 optO (CV.asB r14) fun b15 =>
 bif (!b15) then
 (optO (C lb n F_l07_awake []) fun r17 =>
 some (r17))
 else
 (optO (C lb n F_flight_Legs [.agg [.list aairn1 aair2, .list adisn3 adis4], .agg [.str bcar5, .int .i64 bnum6, .int .i64 bperfro7, .int .i64 bperto9, .int .i64 bperday10, .list blegn11 bleg12], .int .i64 c13]) fun r18 =>
 optO (CV.asT r18) fun t19 =>
 optO (t19[0]?) fun x20 =>
 optO (CV.asT r18) fun t21 =>
 optO (t21[1]?) fun x22 =>
 optO (C lb n F_r07_Legs [.agg [.list aairn1 aair2, .list adisn3 adis4], .agg [.str bcar5, .int .i64 bnum6, .int .i64 bperfro7, .int .i64 bperto9, .int .i64 bperday10, .list blegn11 bleg12], .int .i64 c13]) fun r23 =>
 optO (CV.asT r23) fun t24 =>
 optO (t24[0]?) fun x25 =>
 optO (CV.asT r23) fun t26 =>
 optO (t26[1]?) fun x27 =>
 optO (C lb n F_flight_Segs [.agg [.list aairn1 aair2, .list adisn3 adis4], .agg [.str bcar5, .int .i64 bnum6, .int .i64 bperfro7, .int .i64 bperto9, .int .i64 bperday10, .list blegn11 bleg12], .int .i64 c13]) fun r28 =>
 optO (CV.asT r28) fun t29 =>
 optO (t29[0]?) fun x30 =>
 optO (CV.asT r28) fun t31 =>
 optO (t31[1]?) fun x33 =>
 optO (C lb n F_r07_Segs [.agg [.list aairn1 aair2, .list adisn3 adis4], .agg [.str bcar5, .int .i64 bnum6, .int .i64 bperfro7, .int .i64 bperto9, .int .i64 bperday10, .list blegn11 bleg12], .int .i64 c13]) fun r34 =>
 optO (CV.asT r34) fun t35 =>
 optO (t35[0]?) fun x36 =>
 optO (CV.asT r34) fun t37 =>
 optO (t37[1]?) fun x38 =>
 optO (CV.asI .i64 x22) fun i39 =>
 optO (CV.asI .i64 x27) fun i40 =>
 bif (i39 != i40) then
 (some (.bool false))
 else
 (optO (CV.asI .i64 x33) fun i41 =>
 optO (CV.asI .i64 x38) fun i42 =>
 bif (i41 != i42) then
 (some (.bool false))
 else
 (optO (CV.asL x20) fun p43 =>
 optO (CV.asL x25) fun p44 =>
 bif ((p43.2.length : Int) != (p44.2.length : Int)) then
 (some (.bool false))
 else
 (optO (CV.asL x30) fun p45 =>
 optO (CV.asL x36) fun p46 =>
 bif ((p45.2.length : Int) != (p46.2.length : Int)) then
 (some (.bool false))
 else
 (l07_FlightLegs_L1 lb n n aairn1 aair2 adisn3 adis4 bcar5 bnum6 bperfro7 bperto9 bperday10 blegn11 bleg12 c13 x20 x22 x25 x27 x30 x33 x36 x38 r18 r23 r28 r34 0))))) := by kernel_rfl

end Go.Proofs
