/- Equations of functions, printed by program. Conditions: none. -/
import Derived.Test.YtifjdkimbamdkaaDoorTEv
namespace Go.Proofs
open Go.Am
set_option maxRecDepth 100000
set_option linter.unusedVariables false
/-! airline/airlineref06.Check -/
noncomputable def r06_Check_L1 (lb : Bool) (n : Nat) (k55 : Nat) (aairn1 : Bool) (aair2 : List (List CV)) (adisn3 : Bool) (adis4 : List (List CV)) (b29 : Bool) (l30 : List (List CV)) (i31 : Int) : Option CV :=
  hold (loopC (E0 lb n 0 994) 0 (loopTemps (sub (B F_r06_Check) [1, 1, 0, 1, 0, 0]) ++ [5, 6, 6]) [] (sub (B F_r06_Check) [1, 1, 0, 1, 0, 0]) (blockK 0 (seqK (E0 lb n 0 997) (sub (B F_r06_Check) [1, 1, 0]) (sub (B F_r06_Check) [1, 1, 1]) (retK Tryd.prog (R F_r06_Check) 0 (outK (tightF Tryd.prog F_r06_Check))))) k55 ⟨fr 65 [(0, .val (.agg [.list aairn1 aair2, .list adisn3 adis4])), (1, .ptr 0 1 0), (2, .lst true true 63 []), (3, .lst true b29 63 l30), (4, .val (.int .i64 i31))], [bx 65 [(1, some [.val (.list aairn1 aair2), .val (.list adisn3 adis4)])]], KK⟩)

noncomputable def r06_Check_L2 (lb : Bool) (n : Nat) (k73 : Nat) (k55 : Nat) (aairn1 : Bool) (aair2 : List (List CV)) (adisn3 : Bool) (adis4 : List (List CV)) (i31 : Int) (r56 : CV) (b63 : Bool) (l65 : List (List CV)) (i66 : Int) : Option CV :=
  hold (loopC (E0 lb n 0 987) 0 (loopTemps (sub (B F_r06_Check) [1, 1, 0, 1, 0, 0, 1, 0, 0, 1, 1, 0, 0]) ++ []) [] (sub (B F_r06_Check) [1, 1, 0, 1, 0, 0, 1, 0, 0, 1, 1, 0, 0]) (blockK 2 (blockK 1 (seqK (E0 lb n 0 992) (sub (B F_r06_Check) [1, 1, 0, 1, 0, 0, 1, 0]) (sub (B F_r06_Check) [1, 1, 0, 1, 0, 0, 1, 1]) (loopK 0 (loopTemps (sub (B F_r06_Check) [1, 1, 0, 1, 0, 0]) ++ [5, 6, 6]) [] (loopC (E0 lb n 0 994) 0 (loopTemps (sub (B F_r06_Check) [1, 1, 0, 1, 0, 0]) ++ [5, 6, 6]) [] (sub (B F_r06_Check) [1, 1, 0, 1, 0, 0]) (blockK 0 (seqK (E0 lb n 0 997) (sub (B F_r06_Check) [1, 1, 0]) (sub (B F_r06_Check) [1, 1, 1]) (retK Tryd.prog (R F_r06_Check) 0 (outK (tightF Tryd.prog F_r06_Check))))) k55) (blockK 0 (seqK (E0 lb n 0 997) (sub (B F_r06_Check) [1, 1, 0]) (sub (B F_r06_Check) [1, 1, 1]) (retK Tryd.prog (R F_r06_Check) 0 (outK (tightF Tryd.prog F_r06_Check))))))))) k73 ⟨fr 65 [(0, .val (.agg [.list aairn1 aair2, .list adisn3 adis4])), (1, .ptr 0 1 0), (2, .lst true true 63 []), (3, .lst true b63 63 l65), (4, .val (.int .i64 i31)), (5, .val r56), (6, .val (.int .i64 i66)), (17, .val (.agg [.list aairn1 aair2, .list adisn3 adis4])), (18, .val (.int .i64 i31)), (19, .val r56)], [bx 65 [(1, some [.val (.list aairn1 aair2), .val (.list adisn3 adis4)])]], KK⟩)

noncomputable def r06_Check_J3 (lb : Bool) (n : Nat) (k55 : Nat) (aairn1 : Bool) (aair2 : List (List CV)) (adisn3 : Bool) (adis4 : List (List CV)) (i31 : Int) (b80 : Bool) (l81 : List (List CV)) (v82 : CV) (i83 : Int) : Option CV :=
  hold (E0 lb n 0 992 (sub (B F_r06_Check) [1, 1, 0, 1, 0, 0, 1, 1]) (loopK 0 (loopTemps (sub (B F_r06_Check) [1, 1, 0, 1, 0, 0]) ++ [5, 6, 6]) [] (loopC (E0 lb n 0 994) 0 (loopTemps (sub (B F_r06_Check) [1, 1, 0, 1, 0, 0]) ++ [5, 6, 6]) [] (sub (B F_r06_Check) [1, 1, 0, 1, 0, 0]) (blockK 0 (seqK (E0 lb n 0 997) (sub (B F_r06_Check) [1, 1, 0]) (sub (B F_r06_Check) [1, 1, 1]) (retK Tryd.prog (R F_r06_Check) 0 (outK (tightF Tryd.prog F_r06_Check))))) k55) (blockK 0 (seqK (E0 lb n 0 997) (sub (B F_r06_Check) [1, 1, 0]) (sub (B F_r06_Check) [1, 1, 1]) (retK Tryd.prog (R F_r06_Check) 0 (outK (tightF Tryd.prog F_r06_Check)))))) ⟨fr 65 [(0, .val (.agg [.list aairn1 aair2, .list adisn3 adis4])), (1, .ptr 0 1 0), (2, .lst true true 63 []), (3, .lst true b80 63 l81), (4, .val (.int .i64 i31)), (5, .val v82), (6, .val (.int .i64 i83))], [bx 65 [(1, some [.val (.list aairn1 aair2), .val (.list adisn3 adis4)])]], KK⟩)

theorem r06_Check_J3_eq (lb : Bool) (n : Nat) (k55 : Nat) (aairn1 : Bool) (aair2 : List (List CV)) (adisn3 : Bool) (adis4 : List (List CV)) (i31 : Int) (b80 : Bool) (l81 : List (List CV)) (v82 : CV) (i83 : Int) :
  r06_Check_J3 lb n k55 aairn1 aair2 adisn3 adis4 i31 b80 l81 v82 i83 =
 r06_Check_L1 lb n k55 aairn1 aair2 adisn3 adis4 b80 l81 (IntKind.wrap .i64 (i31 + 1)) := (hold_eq _).trans (by kernel_rfl)

theorem r06_Check_L2_succ (lb : Bool) (n k73 : Nat) (k55 : Nat) (aairn1 : Bool) (aair2 : List (List CV)) (adisn3 : Bool) (adis4 : List (List CV)) (i31 : Int) (r56 : CV) (b63 : Bool) (l65 : List (List CV)) (i66 : Int) :
  r06_Check_L2 lb n (k73 + 1) k55 aairn1 aair2 adisn3 adis4 i31 r56 b63 l65 i66 =
 optO (CV.asL r56) fun p74 =>
 bif (decide (i66 < (p74.2.length : Int))) then
 (optO (CV.asL r56) fun p75 =>
 optO (atL p75.2 i66) fun c76 =>
 chkO (c76.length == 1) (
 optO (c76[0]?) fun x77 =>
 optO (C lb n F_r01_Decimal [.int .i64 i31]) fun r78 =>
 optO (CV.asS r78) fun s79 =>
 chkO (decide (([97, 105, 114, 112, 111, 114, 116, 32] : List UInt8).length + s79.length ≤ 9223372036854775807)) (
 chkO (CV.isCell x77) (
 chkO (room (l65.length + 1) 24) (
 r06_Check_L2 lb n k73 k55 aairn1 aair2 adisn3 adis4 i31 r56 (b63 && false) (l65 ++ [[x77, CV.str (([97, 105, 114, 112, 111, 114, 116, 32] : List UInt8) ++ s79)]]) (IntKind.wrap .i64 (i66 + 1)))))))
 else
 (r06_Check_J3 lb n k55 aairn1 aair2 adisn3 adis4 i31 b63 l65 r56 i66) := (hold_eq _).trans (by kernel_rfl)

theorem r06_Check_L2_zero (lb : Bool) (n : Nat) (k55 : Nat) (aairn1 : Bool) (aair2 : List (List CV)) (adisn3 : Bool) (adis4 : List (List CV)) (i31 : Int) (r56 : CV) (b63 : Bool) (l65 : List (List CV)) (i66 : Int) :
  r06_Check_L2 lb n 0 k55 aairn1 aair2 adisn3 adis4 i31 r56 b63 l65 i66 =
 none := (hold_eq _).trans (by kernel_rfl)

noncomputable def r06_Check_J4 (lb : Bool) (n : Nat) (aairn1 : Bool) (aair2 : List (List CV)) (adisn3 : Bool) (adis4 : List (List CV)) (b84 : Bool) (l85 : List (List CV)) (i86 : Int) : Option CV :=
  hold (E0 lb n 0 997 (sub (B F_r06_Check) [1, 1, 1]) (retK Tryd.prog (R F_r06_Check) 0 (outK (tightF Tryd.prog F_r06_Check))) ⟨fr 65 [(0, .val (.agg [.list aairn1 aair2, .list adisn3 adis4])), (1, .ptr 0 1 0), (2, .lst true true 63 []), (3, .lst true b84 63 l85), (4, .val (.int .i64 i86))], [bx 65 [(1, some [.val (.list aairn1 aair2), .val (.list adisn3 adis4)])]], KK⟩)

noncomputable def r06_Check_L5 (lb : Bool) (n : Nat) (k134 : Nat) (aairn1 : Bool) (aair2 : List (List CV)) (adisn3 : Bool) (adis4 : List (List CV)) (i86 : Int) (b109 : Bool) (l110 : List (List CV)) (i111 : Int) : Option CV :=
  hold (loopC (E0 lb n 0 993) 0 (loopTemps (sub (B F_r06_Check) [1, 1, 1, 0, 1, 0, 0]) ++ [8, 9, 9]) [] (sub (B F_r06_Check) [1, 1, 1, 0, 1, 0, 0]) (blockK 4 (seqK (E0 lb n 0 996) (sub (B F_r06_Check) [1, 1, 1, 0]) (sub (B F_r06_Check) [1, 1, 1, 1]) (retK Tryd.prog (R F_r06_Check) 0 (outK (tightF Tryd.prog F_r06_Check))))) k134 ⟨fr 65 [(0, .val (.agg [.list aairn1 aair2, .list adisn3 adis4])), (1, .ptr 0 1 0), (2, .lst true true 63 []), (3, .lst true b109 63 l110), (4, .val (.int .i64 i86)), (7, .val (.int .i64 i111))], [bx 65 [(1, some [.val (.list aairn1 aair2), .val (.list adisn3 adis4)])]], KK⟩)

noncomputable def r06_Check_L6 (lb : Bool) (n : Nat) (k151 : Nat) (k134 : Nat) (aairn1 : Bool) (aair2 : List (List CV)) (adisn3 : Bool) (adis4 : List (List CV)) (i86 : Int) (i111 : Int) (r135 : CV) (b142 : Bool) (l143 : List (List CV)) (i144 : Int) : Option CV :=
  hold (loopC (E0 lb n 0 986) 0 (loopTemps (sub (B F_r06_Check) [1, 1, 1, 0, 1, 0, 0, 1, 0, 0, 1, 1, 0, 0]) ++ []) [] (sub (B F_r06_Check) [1, 1, 1, 0, 1, 0, 0, 1, 0, 0, 1, 1, 0, 0]) (blockK 6 (blockK 5 (seqK (E0 lb n 0 991) (sub (B F_r06_Check) [1, 1, 1, 0, 1, 0, 0, 1, 0]) (sub (B F_r06_Check) [1, 1, 1, 0, 1, 0, 0, 1, 1]) (loopK 0 (loopTemps (sub (B F_r06_Check) [1, 1, 1, 0, 1, 0, 0]) ++ [8, 9, 9]) [] (loopC (E0 lb n 0 993) 0 (loopTemps (sub (B F_r06_Check) [1, 1, 1, 0, 1, 0, 0]) ++ [8, 9, 9]) [] (sub (B F_r06_Check) [1, 1, 1, 0, 1, 0, 0]) (blockK 4 (seqK (E0 lb n 0 996) (sub (B F_r06_Check) [1, 1, 1, 0]) (sub (B F_r06_Check) [1, 1, 1, 1]) (retK Tryd.prog (R F_r06_Check) 0 (outK (tightF Tryd.prog F_r06_Check))))) k134) (blockK 4 (seqK (E0 lb n 0 996) (sub (B F_r06_Check) [1, 1, 1, 0]) (sub (B F_r06_Check) [1, 1, 1, 1]) (retK Tryd.prog (R F_r06_Check) 0 (outK (tightF Tryd.prog F_r06_Check))))))))) k151 ⟨fr 65 [(0, .val (.agg [.list aairn1 aair2, .list adisn3 adis4])), (1, .ptr 0 1 0), (2, .lst true true 63 []), (3, .lst true b142 63 l143), (4, .val (.int .i64 i86)), (7, .val (.int .i64 i111)), (8, .val r135), (9, .val (.int .i64 i144)), (44, .val (.agg [.list aairn1 aair2, .list adisn3 adis4])), (45, .val (.int .i64 i111)), (46, .val r135)], [bx 65 [(1, some [.val (.list aairn1 aair2), .val (.list adisn3 adis4)])]], KK⟩)

noncomputable def r06_Check_J7 (lb : Bool) (n : Nat) (k134 : Nat) (aairn1 : Bool) (aair2 : List (List CV)) (adisn3 : Bool) (adis4 : List (List CV)) (i86 : Int) (i111 : Int) (b158 : Bool) (l159 : List (List CV)) (v160 : CV) (i161 : Int) : Option CV :=
  hold (E0 lb n 0 991 (sub (B F_r06_Check) [1, 1, 1, 0, 1, 0, 0, 1, 1]) (loopK 0 (loopTemps (sub (B F_r06_Check) [1, 1, 1, 0, 1, 0, 0]) ++ [8, 9, 9]) [] (loopC (E0 lb n 0 993) 0 (loopTemps (sub (B F_r06_Check) [1, 1, 1, 0, 1, 0, 0]) ++ [8, 9, 9]) [] (sub (B F_r06_Check) [1, 1, 1, 0, 1, 0, 0]) (blockK 4 (seqK (E0 lb n 0 996) (sub (B F_r06_Check) [1, 1, 1, 0]) (sub (B F_r06_Check) [1, 1, 1, 1]) (retK Tryd.prog (R F_r06_Check) 0 (outK (tightF Tryd.prog F_r06_Check))))) k134) (blockK 4 (seqK (E0 lb n 0 996) (sub (B F_r06_Check) [1, 1, 1, 0]) (sub (B F_r06_Check) [1, 1, 1, 1]) (retK Tryd.prog (R F_r06_Check) 0 (outK (tightF Tryd.prog F_r06_Check)))))) ⟨fr 65 [(0, .val (.agg [.list aairn1 aair2, .list adisn3 adis4])), (1, .ptr 0 1 0), (2, .lst true true 63 []), (3, .lst true b158 63 l159), (4, .val (.int .i64 i86)), (7, .val (.int .i64 i111)), (8, .val v160), (9, .val (.int .i64 i161))], [bx 65 [(1, some [.val (.list aairn1 aair2), .val (.list adisn3 adis4)])]], KK⟩)

theorem r06_Check_J7_eq (lb : Bool) (n : Nat) (k134 : Nat) (aairn1 : Bool) (aair2 : List (List CV)) (adisn3 : Bool) (adis4 : List (List CV)) (i86 : Int) (i111 : Int) (b158 : Bool) (l159 : List (List CV)) (v160 : CV) (i161 : Int) :
  r06_Check_J7 lb n k134 aairn1 aair2 adisn3 adis4 i86 i111 b158 l159 v160 i161 =
 r06_Check_L5 lb n k134 aairn1 aair2 adisn3 adis4 i86 b158 l159 (IntKind.wrap .i64 (i111 + 1)) := (hold_eq _).trans (by kernel_rfl)

theorem r06_Check_L6_succ (lb : Bool) (n k151 : Nat) (k134 : Nat) (aairn1 : Bool) (aair2 : List (List CV)) (adisn3 : Bool) (adis4 : List (List CV)) (i86 : Int) (i111 : Int) (r135 : CV) (b142 : Bool) (l143 : List (List CV)) (i144 : Int) :
  r06_Check_L6 lb n (k151 + 1) k134 aairn1 aair2 adisn3 adis4 i86 i111 r135 b142 l143 i144 =
 optO (CV.asL r135) fun p152 =>
 bif (decide (i144 < (p152.2.length : Int))) then
 (optO (CV.asL r135) fun p153 =>
 optO (atL p153.2 i144) fun c154 =>
 chkO (c154.length == 1) (
 optO (c154[0]?) fun x155 =>
 optO (C lb n F_r01_Decimal [.int .i64 i111]) fun r156 =>
 optO (CV.asS r156) fun s157 =>
 chkO (decide (([100, 105, 115, 116, 97, 110, 99, 101, 32] : List UInt8).length + s157.length ≤ 9223372036854775807)) (
 chkO (CV.isCell x155) (
 chkO (room (l143.length + 1) 24) (
 r06_Check_L6 lb n k151 k134 aairn1 aair2 adisn3 adis4 i86 i111 r135 (b142 && false) (l143 ++ [[x155, CV.str (([100, 105, 115, 116, 97, 110, 99, 101, 32] : List UInt8) ++ s157)]]) (IntKind.wrap .i64 (i144 + 1)))))))
 else
 (r06_Check_J7 lb n k134 aairn1 aair2 adisn3 adis4 i86 i111 b142 l143 r135 i144) := (hold_eq _).trans (by kernel_rfl)

theorem r06_Check_L6_zero (lb : Bool) (n : Nat) (k134 : Nat) (aairn1 : Bool) (aair2 : List (List CV)) (adisn3 : Bool) (adis4 : List (List CV)) (i86 : Int) (i111 : Int) (r135 : CV) (b142 : Bool) (l143 : List (List CV)) (i144 : Int) :
  r06_Check_L6 lb n 0 k134 aairn1 aair2 adisn3 adis4 i86 i111 r135 b142 l143 i144 =
 none := (hold_eq _).trans (by kernel_rfl)

noncomputable def r06_Check_J8 (lb : Bool) (n : Nat) (aairn1 : Bool) (aair2 : List (List CV)) (adisn3 : Bool) (adis4 : List (List CV)) (i86 : Int) (b162 : Bool) (l163 : List (List CV)) (i164 : Int) : Option CV :=
  hold (E0 lb n 0 996 (sub (B F_r06_Check) [1, 1, 1, 1]) (retK Tryd.prog (R F_r06_Check) 0 (outK (tightF Tryd.prog F_r06_Check))) ⟨fr 65 [(0, .val (.agg [.list aairn1 aair2, .list adisn3 adis4])), (1, .ptr 0 1 0), (2, .lst true true 63 []), (3, .lst true b162 63 l163), (4, .val (.int .i64 i86)), (7, .val (.int .i64 i164))], [bx 65 [(1, some [.val (.list aairn1 aair2), .val (.list adisn3 adis4)])]], KK⟩)

theorem r06_Check_J8_eq (lb : Bool) (n : Nat) (aairn1 : Bool) (aair2 : List (List CV)) (adisn3 : Bool) (adis4 : List (List CV)) (i86 : Int) (b162 : Bool) (l163 : List (List CV)) (i164 : Int) :
  r06_Check_J8 lb n aairn1 aair2 adisn3 adis4 i86 b162 l163 i164 =
 some (.list b162 l163) := (hold_eq _).trans (by kernel_rfl)

theorem r06_Check_L5_succ (lb : Bool) (n k134 : Nat) (aairn1 : Bool) (aair2 : List (List CV)) (adisn3 : Bool) (adis4 : List (List CV)) (i86 : Int) (b109 : Bool) (l110 : List (List CV)) (i111 : Int) :
  r06_Check_L5 lb n (k134 + 1) aairn1 aair2 adisn3 adis4 i86 b109 l110 i111 =
 bif (decide (i111 < (adis4.length : Int))) then
 (optO (C lb n F_r06_distance [.agg [.list aairn1 aair2, .list adisn3 adis4], .int .i64 i111]) fun r135 =>
 r06_Check_L6 lb n n k134 aairn1 aair2 adisn3 adis4 i86 i111 r135 b109 l110 0)
 else
 (r06_Check_J8 lb n aairn1 aair2 adisn3 adis4 i86 b109 l110 i111) := (hold_eq _).trans (by kernel_rfl)

theorem r06_Check_L5_zero (lb : Bool) (n : Nat) (aairn1 : Bool) (aair2 : List (List CV)) (adisn3 : Bool) (adis4 : List (List CV)) (i86 : Int) (b109 : Bool) (l110 : List (List CV)) (i111 : Int) :
  r06_Check_L5 lb n 0 aairn1 aair2 adisn3 adis4 i86 b109 l110 i111 =
 none := (hold_eq _).trans (by kernel_rfl)

theorem r06_Check_J4_eq (lb : Bool) (n : Nat) (aairn1 : Bool) (aair2 : List (List CV)) (adisn3 : Bool) (adis4 : List (List CV)) (b84 : Bool) (l85 : List (List CV)) (i86 : Int) :
  r06_Check_J4 lb n aairn1 aair2 adisn3 adis4 b84 l85 i86 =
 r06_Check_L5 lb n n aairn1 aair2 adisn3 adis4 i86 b84 l85 0 := (hold_eq _).trans (by kernel_rfl)

theorem r06_Check_L1_succ (lb : Bool) (n k55 : Nat) (aairn1 : Bool) (aair2 : List (List CV)) (adisn3 : Bool) (adis4 : List (List CV)) (b29 : Bool) (l30 : List (List CV)) (i31 : Int) :
  r06_Check_L1 lb n (k55 + 1) aairn1 aair2 adisn3 adis4 b29 l30 i31 =
 bif (decide (i31 < (aair2.length : Int))) then
 (optO (C lb n F_r06_airport [.agg [.list aairn1 aair2, .list adisn3 adis4], .int .i64 i31]) fun r56 =>
 r06_Check_L2 lb n n k55 aairn1 aair2 adisn3 adis4 i31 r56 b29 l30 0)
 else
 (r06_Check_J4 lb n aairn1 aair2 adisn3 adis4 b29 l30 i31) := (hold_eq _).trans (by kernel_rfl)

theorem r06_Check_L1_zero (lb : Bool) (n : Nat) (aairn1 : Bool) (aair2 : List (List CV)) (adisn3 : Bool) (adis4 : List (List CV)) (b29 : Bool) (l30 : List (List CV)) (i31 : Int) :
  r06_Check_L1 lb n 0 aairn1 aair2 adisn3 adis4 b29 l30 i31 =
 none := (hold_eq _).trans (by kernel_rfl)

theorem r06_Check_eq (lb : Bool) (n : Nat) (aairn1 : Bool) (aair2 : List (List CV)) (adisn3 : Bool) (adis4 : List (List CV)) :
  top lb n F_r06_Check [.agg [.list aairn1 aair2, .list adisn3 adis4]] =
 r06_Check_L1 lb n n aairn1 aair2 adisn3 adis4 true [] 0 := by kernel_rfl

/-! airline/airlineref06.airport -/
noncomputable def r06_airport_J1 (lb : Bool) (n : Nat) (aairn1 : Bool) (aair2 : List (List CV)) (adisn3 : Bool) (adis4 : List (List CV)) (b5 : Int) (c6 : List CV) (x7 : CV) (x9 : CV) (x10 : CV) (x11 : CV) (x12 : CV) (b15 : Bool) (l17 : List (List CV)) : Option CV :=
  hold (E0 lb n 0 996 (sub (B F_r06_airport) [1, 1, 1, 1]) (retK Tryd.prog (R F_r06_airport) 0 (outK (tightF Tryd.prog F_r06_airport))) ⟨fr 93 [(0, .val (.agg [.list aairn1 aair2, .list adisn3 adis4])), (1, .val (.int .i64 b5)), (2, .ptr 0 2 0), (4, .lst true true 37 []), (5, .lst true b15 37 l17), (6, .ptr 0 6 0), (11, .ptr 0 2 0), (12, .val (.list aairn1 aair2)), (13, .val (.int .i64 b5)), (14, .cptr c6 0), (15, .val (.agg [x7, x9, x10, x11, x12]))], [bx 93 [(2, some [.val (.list aairn1 aair2), .val (.list adisn3 adis4)]), (6, some [.val x7, .val x9, .val x10, .val x11, .val x12])]], KK⟩)

noncomputable def r06_airport_L2 (lb : Bool) (n : Nat) (k57 : Nat) (aairn1 : Bool) (aair2 : List (List CV)) (adisn3 : Bool) (adis4 : List (List CV)) (b5 : Int) (b15 : Bool) (l17 : List (List CV)) (c6 : List CV) (x7 : CV) (x9 : CV) (x10 : CV) (x11 : CV) (x12 : CV) (b34 : Bool) (b35 : Bool) (i36 : Int) : Option CV :=
  hold (loopC (E0 lb n 0 991) 0 (loopTemps (sub (B F_r06_airport) [1, 1, 1, 1, 1, 0, 1, 0, 0]) ++ []) [] (sub (B F_r06_airport) [1, 1, 1, 1, 1, 0, 1, 0, 0]) (blockK 0 (seqK (E0 lb n 0 994) (sub (B F_r06_airport) [1, 1, 1, 1, 1, 0]) (sub (B F_r06_airport) [1, 1, 1, 1, 1, 1]) (retK Tryd.prog (R F_r06_airport) 0 (outK (tightF Tryd.prog F_r06_airport))))) k57 ⟨fr 93 [(0, .val (.agg [.list aairn1 aair2, .list adisn3 adis4])), (1, .val (.int .i64 b5)), (2, .ptr 0 2 0), (4, .lst true true 37 []), (5, .lst true b15 37 l17), (6, .ptr 0 6 0), (7, .val (.bool b34)), (8, .val (.bool b35)), (9, .val (.int .i64 i36)), (11, .ptr 0 2 0), (12, .val (.list aairn1 aair2)), (13, .val (.int .i64 b5)), (14, .cptr c6 0), (15, .val (.agg [x7, x9, x10, x11, x12]))], [bx 93 [(2, some [.val (.list aairn1 aair2), .val (.list adisn3 adis4)]), (6, some [.val x7, .val x9, .val x10, .val x11, .val x12])]], KK⟩)

noncomputable def r06_airport_J3 (lb : Bool) (n : Nat) (aairn1 : Bool) (aair2 : List (List CV)) (adisn3 : Bool) (adis4 : List (List CV)) (b5 : Int) (b15 : Bool) (l17 : List (List CV)) (c6 : List CV) (x7 : CV) (x9 : CV) (x10 : CV) (x11 : CV) (x12 : CV) (b79 : Bool) (b80 : Bool) (i81 : Int) : Option CV :=
  hold (E0 lb n 0 994 (sub (B F_r06_airport) [1, 1, 1, 1, 1, 1]) (retK Tryd.prog (R F_r06_airport) 0 (outK (tightF Tryd.prog F_r06_airport))) ⟨fr 93 [(0, .val (.agg [.list aairn1 aair2, .list adisn3 adis4])), (1, .val (.int .i64 b5)), (2, .ptr 0 2 0), (4, .lst true true 37 []), (5, .lst true b15 37 l17), (6, .ptr 0 6 0), (7, .val (.bool b79)), (8, .val (.bool b80)), (9, .val (.int .i64 i81)), (11, .ptr 0 2 0), (12, .val (.list aairn1 aair2)), (13, .val (.int .i64 b5)), (14, .cptr c6 0), (15, .val (.agg [x7, x9, x10, x11, x12]))], [bx 93 [(2, some [.val (.list aairn1 aair2), .val (.list adisn3 adis4)]), (6, some [.val x7, .val x9, .val x10, .val x11, .val x12])]], KK⟩)

noncomputable def r06_airport_J4 (lb : Bool) (n : Nat) (aairn1 : Bool) (aair2 : List (List CV)) (adisn3 : Bool) (adis4 : List (List CV)) (b5 : Int) (b79 : Bool) (b80 : Bool) (i81 : Int) (c6 : List CV) (x7 : CV) (x9 : CV) (x10 : CV) (x11 : CV) (x12 : CV) (b82 : Bool) (l83 : List (List CV)) : Option CV :=
  hold (E0 lb n 0 993 (sub (B F_r06_airport) [1, 1, 1, 1, 1, 1, 1]) (retK Tryd.prog (R F_r06_airport) 0 (outK (tightF Tryd.prog F_r06_airport))) ⟨fr 93 [(0, .val (.agg [.list aairn1 aair2, .list adisn3 adis4])), (1, .val (.int .i64 b5)), (2, .ptr 0 2 0), (4, .lst true true 37 []), (5, .lst true b82 37 l83), (6, .ptr 0 6 0), (7, .val (.bool b79)), (8, .val (.bool b80)), (9, .val (.int .i64 i81)), (11, .ptr 0 2 0), (12, .val (.list aairn1 aair2)), (13, .val (.int .i64 b5)), (14, .cptr c6 0), (15, .val (.agg [x7, x9, x10, x11, x12]))], [bx 93 [(2, some [.val (.list aairn1 aair2), .val (.list adisn3 adis4)]), (6, some [.val x7, .val x9, .val x10, .val x11, .val x12])]], KK⟩)

noncomputable def r06_airport_J5 (lb : Bool) (n : Nat) (aairn1 : Bool) (aair2 : List (List CV)) (adisn3 : Bool) (adis4 : List (List CV)) (b5 : Int) (b79 : Bool) (b80 : Bool) (i81 : Int) (c6 : List CV) (x7 : CV) (x9 : CV) (x10 : CV) (x11 : CV) (x12 : CV) (b84 : Bool) (l85 : List (List CV)) : Option CV :=
  hold (E0 lb n 0 992 (sub (B F_r06_airport) [1, 1, 1, 1, 1, 1, 1, 1]) (retK Tryd.prog (R F_r06_airport) 0 (outK (tightF Tryd.prog F_r06_airport))) ⟨fr 93 [(0, .val (.agg [.list aairn1 aair2, .list adisn3 adis4])), (1, .val (.int .i64 b5)), (2, .ptr 0 2 0), (4, .lst true true 37 []), (5, .lst true b84 37 l85), (6, .ptr 0 6 0), (7, .val (.bool b79)), (8, .val (.bool b80)), (9, .val (.int .i64 i81)), (11, .ptr 0 2 0), (12, .val (.list aairn1 aair2)), (13, .val (.int .i64 b5)), (14, .cptr c6 0), (15, .val (.agg [x7, x9, x10, x11, x12]))], [bx 93 [(2, some [.val (.list aairn1 aair2), .val (.list adisn3 adis4)]), (6, some [.val x7, .val x9, .val x10, .val x11, .val x12])]], KK⟩)

theorem r06_airport_J5_eq (lb : Bool) (n : Nat) (aairn1 : Bool) (aair2 : List (List CV)) (adisn3 : Bool) (adis4 : List (List CV)) (b5 : Int) (b79 : Bool) (b80 : Bool) (i81 : Int) (c6 : List CV) (x7 : CV) (x9 : CV) (x10 : CV) (x11 : CV) (x12 : CV) (b84 : Bool) (l85 : List (List CV)) :
  r06_airport_J5 lb n aairn1 aair2 adisn3 adis4 b5 b79 b80 i81 c6 x7 x9 x10 x11 x12 b84 l85 =
 optO (C lb n F_r05_Check [.agg [x11, x12]]) fun r86 =>
 optO (CV.asI .i64 r86) fun i87 =>
 bif (i87 != 0) then
 (chkO (CV.isCell r86) (
 chkO (room (l85.length + 1) 8) (
 some (.list (b84 && false) (l85 ++ [[r86]])))))
 else
 (some (.list b84 l85)) := (hold_eq _).trans (by kernel_rfl)

theorem r06_airport_J4_eq (lb : Bool) (n : Nat) (aairn1 : Bool) (aair2 : List (List CV)) (adisn3 : Bool) (adis4 : List (List CV)) (b5 : Int) (b79 : Bool) (b80 : Bool) (i81 : Int) (c6 : List CV) (x7 : CV) (x9 : CV) (x10 : CV) (x11 : CV) (x12 : CV) (b82 : Bool) (l83 : List (List CV)) :
  r06_airport_J4 lb n aairn1 aair2 adisn3 adis4 b5 b79 b80 i81 c6 x7 x9 x10 x11 x12 b82 l83 =
 bif b80 then
 (chkO (room (l83.length + 1) 8) (
 r06_airport_J5 lb n aairn1 aair2 adisn3 adis4 b5 b79 b80 i81 c6 x7 x9 x10 x11 x12 (b82 && false) (l83 ++ [[CV.int .i64 8]])))
 else
 (r06_airport_J5 lb n aairn1 aair2 adisn3 adis4 b5 b79 b80 i81 c6 x7 x9 x10 x11 x12 b82 l83) := (hold_eq _).trans (by kernel_rfl)

theorem r06_airport_J3_eq (lb : Bool) (n : Nat) (aairn1 : Bool) (aair2 : List (List CV)) (adisn3 : Bool) (adis4 : List (List CV)) (b5 : Int) (b15 : Bool) (l17 : List (List CV)) (c6 : List CV) (x7 : CV) (x9 : CV) (x10 : CV) (x11 : CV) (x12 : CV) (b79 : Bool) (b80 : Bool) (i81 : Int) :
  r06_airport_J3 lb n aairn1 aair2 adisn3 adis4 b5 b15 l17 c6 x7 x9 x10 x11 x12 b79 b80 i81 =
 bif b79 then
 (chkO (room (l17.length + 1) 8) (
 r06_airport_J4 lb n aairn1 aair2 adisn3 adis4 b5 b79 b80 i81 c6 x7 x9 x10 x11 x12 (b15 && false) (l17 ++ [[CV.int .i64 6]])))
 else
 (r06_airport_J4 lb n aairn1 aair2 adisn3 adis4 b5 b79 b80 i81 c6 x7 x9 x10 x11 x12 b15 l17) := (hold_eq _).trans (by kernel_rfl)

theorem r06_airport_L2_succ (lb : Bool) (n k57 : Nat) (aairn1 : Bool) (aair2 : List (List CV)) (adisn3 : Bool) (adis4 : List (List CV)) (b5 : Int) (b15 : Bool) (l17 : List (List CV)) (c6 : List CV) (x7 : CV) (x9 : CV) (x10 : CV) (x11 : CV) (x12 : CV) (b34 : Bool) (b35 : Bool) (i36 : Int) :
  r06_airport_L2 lb n (k57 + 1) aairn1 aair2 adisn3 adis4 b5 b15 l17 c6 x7 x9 x10 x11 x12 b34 b35 i36 =
 bif (decide (i36 < b5)) then
 (bif b34 then
 (bif b35 then
 (r06_airport_L2 lb n k57 aairn1 aair2 adisn3 adis4 b5 b15 l17 c6 x7 x9 x10 x11 x12 true true (IntKind.wrap .i64 (i36 + 1)))
 else
 (optO (atL aair2 i36) fun c58 =>
 chkO (c58.length == 5) (
 optO (c58[1]?) fun x59 =>
 optO (CV.asS x59) fun s60 =>
 optO (CV.asS x9) fun s61 =>
 bif (s60 == s61) then
 (optO (atL aair2 i36) fun c62 =>
 chkO (c62.length == 5) (
 optO (c62[2]?) fun x63 =>
 optO (CV.asS x63) fun s65 =>
 optO (CV.asS x10) fun s66 =>
 r06_airport_L2 lb n k57 aairn1 aair2 adisn3 adis4 b5 b15 l17 c6 x7 x9 x10 x11 x12 true (!(s65 == s66)) (IntKind.wrap .i64 (i36 + 1))))
 else
 (r06_airport_L2 lb n k57 aairn1 aair2 adisn3 adis4 b5 b15 l17 c6 x7 x9 x10 x11 x12 true false (IntKind.wrap .i64 (i36 + 1))))))
 else
 (optO (atL aair2 i36) fun c67 =>
 chkO (c67.length == 5) (
 optO (c67[0]?) fun x68 =>
 optO (CV.asS x68) fun s69 =>
 optO (CV.asS x7) fun s70 =>
 bif b35 then
 (r06_airport_L2 lb n k57 aairn1 aair2 adisn3 adis4 b5 b15 l17 c6 x7 x9 x10 x11 x12 (s69 == s70) true (IntKind.wrap .i64 (i36 + 1)))
 else
 (optO (atL aair2 i36) fun c71 =>
 chkO (c71.length == 5) (
 optO (c71[1]?) fun x72 =>
 optO (CV.asS x72) fun s73 =>
 optO (CV.asS x9) fun s74 =>
 bif (s73 == s74) then
 (optO (atL aair2 i36) fun c75 =>
 chkO (c75.length == 5) (
 optO (c75[2]?) fun x76 =>
 optO (CV.asS x76) fun s77 =>
 optO (CV.asS x10) fun s78 =>
 r06_airport_L2 lb n k57 aairn1 aair2 adisn3 adis4 b5 b15 l17 c6 x7 x9 x10 x11 x12 (s69 == s70) (!(s77 == s78)) (IntKind.wrap .i64 (i36 + 1))))
 else
 (r06_airport_L2 lb n k57 aairn1 aair2 adisn3 adis4 b5 b15 l17 c6 x7 x9 x10 x11 x12 (s69 == s70) false (IntKind.wrap .i64 (i36 + 1))))))))
 else
 (r06_airport_J3 lb n aairn1 aair2 adisn3 adis4 b5 b15 l17 c6 x7 x9 x10 x11 x12 b34 b35 i36) := (hold_eq _).trans (by kernel_rfl)

theorem r06_airport_L2_zero (lb : Bool) (n : Nat) (aairn1 : Bool) (aair2 : List (List CV)) (adisn3 : Bool) (adis4 : List (List CV)) (b5 : Int) (b15 : Bool) (l17 : List (List CV)) (c6 : List CV) (x7 : CV) (x9 : CV) (x10 : CV) (x11 : CV) (x12 : CV) (b34 : Bool) (b35 : Bool) (i36 : Int) :
  r06_airport_L2 lb n 0 aairn1 aair2 adisn3 adis4 b5 b15 l17 c6 x7 x9 x10 x11 x12 b34 b35 i36 =
 none := (hold_eq _).trans (by kernel_rfl)

theorem r06_airport_J1_eq (lb : Bool) (n : Nat) (aairn1 : Bool) (aair2 : List (List CV)) (adisn3 : Bool) (adis4 : List (List CV)) (b5 : Int) (c6 : List CV) (x7 : CV) (x9 : CV) (x10 : CV) (x11 : CV) (x12 : CV) (b15 : Bool) (l17 : List (List CV)) :
  r06_airport_J1 lb n aairn1 aair2 adisn3 adis4 b5 c6 x7 x9 x10 x11 x12 b15 l17 =
 r06_airport_L2 lb n n aairn1 aair2 adisn3 adis4 b5 b15 l17 c6 x7 x9 x10 x11 x12 false false 0 := (hold_eq _).trans (by kernel_rfl)

theorem r06_airport_eq (lb : Bool) (n : Nat) (aairn1 : Bool) (aair2 : List (List CV)) (adisn3 : Bool) (adis4 : List (List CV)) (b5 : Int) :
  top lb n F_r06_airport [.agg [.list aairn1 aair2, .list adisn3 adis4], .int .i64 b5] =
 optO (atL aair2 b5) fun c6 =>
 chkO (c6.length == 5) (
 optO (c6[0]?) fun x7 =>
 optO (c6[1]?) fun x9 =>
 optO (c6[2]?) fun x10 =>
 optO (c6[3]?) fun x11 =>
 optO (c6[4]?) fun x12 =>
 optO (C lb n F_r01_Airport [x7]) fun r13 =>
 optO (CV.asB r13) fun b14 =>
 bif (!b14) then
 (r06_airport_J1 lb n aairn1 aair2 adisn3 adis4 b5 c6 x7 x9 x10 x11 x12 false [[CV.int .i64 5]])
 else
 (optO (C lb n F_r01_Airport [x9]) fun r88 =>
 optO (CV.asB r88) fun b89 =>
 bif (!b89) then
 (r06_airport_J1 lb n aairn1 aair2 adisn3 adis4 b5 c6 x7 x9 x10 x11 x12 false [[CV.int .i64 5]])
 else
 (optO (C lb n F_r01_Country [x10]) fun r90 =>
 optO (CV.asB r90) fun b91 =>
 bif (!b91) then
 (r06_airport_J1 lb n aairn1 aair2 adisn3 adis4 b5 c6 x7 x9 x10 x11 x12 false [[CV.int .i64 5]])
 else
 (r06_airport_J1 lb n aairn1 aair2 adisn3 adis4 b5 c6 x7 x9 x10 x11 x12 true [])))) := by kernel_rfl

/-! airline/airlineref06.distance -/
noncomputable def r06_distance_J1 (lb : Bool) (n : Nat) (aairn1 : Bool) (aair2 : List (List CV)) (adisn3 : Bool) (adis4 : List (List CV)) (b5 : Int) (x15 : CV) (x27 : CV) (c6 : List CV) (x7 : CV) (x9 : CV) (x10 : CV) (r11 : CV) (x13 : CV) (r23 : CV) (x25 : CV) (x18 : CV) (x19 : CV) (x20 : CV) (x21 : CV) (x22 : CV) (x29 : CV) (x30 : CV) (x31 : CV) (x33 : CV) (x34 : CV) (b36 : Bool) (l37 : List (List CV)) : Option CV :=
  hold (E0 lb n 0 994 (sub (B F_r06_distance) [1, 1, 1, 1, 1, 1]) (retK Tryd.prog (R F_r06_distance) 0 (outK (tightF Tryd.prog F_r06_distance))) ⟨fr 99 [(0, .val (.agg [.list aairn1 aair2, .list adisn3 adis4])), (1, .val (.int .i64 b5)), (2, .ptr 0 2 0), (4, .lst true true 37 []), (5, .lst true b36 37 l37), (6, .ptr 0 6 0), (7, .ptr 0 7 0), (8, .val x15), (9, .ptr 0 9 0), (10, .val x27), (14, .ptr 0 2 1), (15, .val (.list adisn3 adis4)), (16, .val (.int .i64 b5)), (17, .cptr c6 0), (18, .val (.agg [x7, x9, x10])), (19, .val r11), (20, .val (.agg [.list aairn1 aair2, .list adisn3 adis4])), (21, .ptr 0 6 0), (22, .val x7), (23, .val r11), (24, .val x13), (25, .val x15), (26, .val r23), (27, .val (.agg [.list aairn1 aair2, .list adisn3 adis4])), (28, .ptr 0 6 1), (29, .val x9), (30, .val r23), (31, .val x25), (32, .val x27)], [bx 99 [(2, some [.val (.list aairn1 aair2), .val (.list adisn3 adis4)]), (6, some [.val x7, .val x9, .val x10]), (7, some [.val x18, .val x19, .val x20, .val x21, .val x22]), (9, some [.val x29, .val x30, .val x31, .val x33, .val x34])]], KK⟩)

noncomputable def r06_distance_L2 (lb : Bool) (n : Nat) (k81 : Nat) (aairn1 : Bool) (aair2 : List (List CV)) (adisn3 : Bool) (adis4 : List (List CV)) (b5 : Int) (b36 : Bool) (l37 : List (List CV)) (x15 : CV) (x27 : CV) (c6 : List CV) (x7 : CV) (x9 : CV) (x10 : CV) (r11 : CV) (x13 : CV) (r23 : CV) (x25 : CV) (x18 : CV) (x19 : CV) (x20 : CV) (x21 : CV) (x22 : CV) (x29 : CV) (x30 : CV) (x31 : CV) (x33 : CV) (x34 : CV) (b62 : Bool) (i63 : Int) : Option CV :=
  hold (loopC (E0 lb n 0 989) 0 (loopTemps (sub (B F_r06_distance) [1, 1, 1, 1, 1, 1, 1, 0, 1, 0, 0]) ++ []) [13] (sub (B F_r06_distance) [1, 1, 1, 1, 1, 1, 1, 0, 1, 0, 0]) (blockK 0 (seqK (E0 lb n 0 992) (sub (B F_r06_distance) [1, 1, 1, 1, 1, 1, 1, 0]) (sub (B F_r06_distance) [1, 1, 1, 1, 1, 1, 1, 1]) (retK Tryd.prog (R F_r06_distance) 0 (outK (tightF Tryd.prog F_r06_distance))))) k81 ⟨fr 99 [(0, .val (.agg [.list aairn1 aair2, .list adisn3 adis4])), (1, .val (.int .i64 b5)), (2, .ptr 0 2 0), (4, .lst true true 37 []), (5, .lst true b36 37 l37), (6, .ptr 0 6 0), (7, .ptr 0 7 0), (8, .val x15), (9, .ptr 0 9 0), (10, .val x27), (11, .val (.bool b62)), (12, .val (.int .i64 i63)), (14, .ptr 0 2 1), (15, .val (.list adisn3 adis4)), (16, .val (.int .i64 b5)), (17, .cptr c6 0), (18, .val (.agg [x7, x9, x10])), (19, .val r11), (20, .val (.agg [.list aairn1 aair2, .list adisn3 adis4])), (21, .ptr 0 6 0), (22, .val x7), (23, .val r11), (24, .val x13), (25, .val x15), (26, .val r23), (27, .val (.agg [.list aairn1 aair2, .list adisn3 adis4])), (28, .ptr 0 6 1), (29, .val x9), (30, .val r23), (31, .val x25), (32, .val x27)], [bx 99 [(2, some [.val (.list aairn1 aair2), .val (.list adisn3 adis4)]), (6, some [.val x7, .val x9, .val x10]), (7, some [.val x18, .val x19, .val x20, .val x21, .val x22]), (9, some [.val x29, .val x30, .val x31, .val x33, .val x34])]], KK⟩)

noncomputable def r06_distance_J3 (lb : Bool) (n : Nat) (aairn1 : Bool) (aair2 : List (List CV)) (adisn3 : Bool) (adis4 : List (List CV)) (b5 : Int) (b36 : Bool) (l37 : List (List CV)) (x15 : CV) (x27 : CV) (c6 : List CV) (x7 : CV) (x9 : CV) (x10 : CV) (r11 : CV) (x13 : CV) (r23 : CV) (x25 : CV) (x18 : CV) (x19 : CV) (x20 : CV) (x21 : CV) (x22 : CV) (x29 : CV) (x30 : CV) (x31 : CV) (x33 : CV) (x34 : CV) (b98 : Bool) (i99 : Int) : Option CV :=
  hold (E0 lb n 0 992 (sub (B F_r06_distance) [1, 1, 1, 1, 1, 1, 1, 1]) (retK Tryd.prog (R F_r06_distance) 0 (outK (tightF Tryd.prog F_r06_distance))) ⟨fr 99 [(0, .val (.agg [.list aairn1 aair2, .list adisn3 adis4])), (1, .val (.int .i64 b5)), (2, .ptr 0 2 0), (4, .lst true true 37 []), (5, .lst true b36 37 l37), (6, .ptr 0 6 0), (7, .ptr 0 7 0), (8, .val x15), (9, .ptr 0 9 0), (10, .val x27), (11, .val (.bool b98)), (12, .val (.int .i64 i99)), (14, .ptr 0 2 1), (15, .val (.list adisn3 adis4)), (16, .val (.int .i64 b5)), (17, .cptr c6 0), (18, .val (.agg [x7, x9, x10])), (19, .val r11), (20, .val (.agg [.list aairn1 aair2, .list adisn3 adis4])), (21, .ptr 0 6 0), (22, .val x7), (23, .val r11), (24, .val x13), (25, .val x15), (26, .val r23), (27, .val (.agg [.list aairn1 aair2, .list adisn3 adis4])), (28, .ptr 0 6 1), (29, .val x9), (30, .val r23), (31, .val x25), (32, .val x27)], [bx 99 [(2, some [.val (.list aairn1 aair2), .val (.list adisn3 adis4)]), (6, some [.val x7, .val x9, .val x10]), (7, some [.val x18, .val x19, .val x20, .val x21, .val x22]), (9, some [.val x29, .val x30, .val x31, .val x33, .val x34])]], KK⟩)

noncomputable def r06_distance_J4 (lb : Bool) (n : Nat) (aairn1 : Bool) (aair2 : List (List CV)) (adisn3 : Bool) (adis4 : List (List CV)) (b5 : Int) (x15 : CV) (x27 : CV) (b98 : Bool) (i99 : Int) (c6 : List CV) (x7 : CV) (x9 : CV) (x10 : CV) (r11 : CV) (x13 : CV) (r23 : CV) (x25 : CV) (x18 : CV) (x19 : CV) (x20 : CV) (x21 : CV) (x22 : CV) (x29 : CV) (x30 : CV) (x31 : CV) (x33 : CV) (x34 : CV) (b100 : Bool) (l101 : List (List CV)) : Option CV :=
  hold (E0 lb n 0 991 (sub (B F_r06_distance) [1, 1, 1, 1, 1, 1, 1, 1, 1]) (retK Tryd.prog (R F_r06_distance) 0 (outK (tightF Tryd.prog F_r06_distance))) ⟨fr 99 [(0, .val (.agg [.list aairn1 aair2, .list adisn3 adis4])), (1, .val (.int .i64 b5)), (2, .ptr 0 2 0), (4, .lst true true 37 []), (5, .lst true b100 37 l101), (6, .ptr 0 6 0), (7, .ptr 0 7 0), (8, .val x15), (9, .ptr 0 9 0), (10, .val x27), (11, .val (.bool b98)), (12, .val (.int .i64 i99)), (14, .ptr 0 2 1), (15, .val (.list adisn3 adis4)), (16, .val (.int .i64 b5)), (17, .cptr c6 0), (18, .val (.agg [x7, x9, x10])), (19, .val r11), (20, .val (.agg [.list aairn1 aair2, .list adisn3 adis4])), (21, .ptr 0 6 0), (22, .val x7), (23, .val r11), (24, .val x13), (25, .val x15), (26, .val r23), (27, .val (.agg [.list aairn1 aair2, .list adisn3 adis4])), (28, .ptr 0 6 1), (29, .val x9), (30, .val r23), (31, .val x25), (32, .val x27)], [bx 99 [(2, some [.val (.list aairn1 aair2), .val (.list adisn3 adis4)]), (6, some [.val x7, .val x9, .val x10]), (7, some [.val x18, .val x19, .val x20, .val x21, .val x22]), (9, some [.val x29, .val x30, .val x31, .val x33, .val x34])]], KK⟩)

theorem r06_distance_J4_eq (lb : Bool) (n : Nat) (aairn1 : Bool) (aair2 : List (List CV)) (adisn3 : Bool) (adis4 : List (List CV)) (b5 : Int) (x15 : CV) (x27 : CV) (b98 : Bool) (i99 : Int) (c6 : List CV) (x7 : CV) (x9 : CV) (x10 : CV) (r11 : CV) (x13 : CV) (r23 : CV) (x25 : CV) (x18 : CV) (x19 : CV) (x20 : CV) (x21 : CV) (x22 : CV) (x29 : CV) (x30 : CV) (x31 : CV) (x33 : CV) (x34 : CV) (b100 : Bool) (l101 : List (List CV)) :
  r06_distance_J4 lb n aairn1 aair2 adisn3 adis4 b5 x15 x27 b98 i99 c6 x7 x9 x10 r11 x13 r23 x25 x18 x19 x20 x21 x22 x29 x30 x31 x33 x34 b100 l101 =
 optO (C lb n F_r06_Usable [.agg [x7, x9, x10]]) fun r102 =>
 optO (CV.asB r102) fun b103 =>
 bif (!b103) then
 (chkO (room (l101.length + 1) 8) (
 some (.list (b100 && false) (l101 ++ [[CV.int .i64 2]]))))
 else
 (optO (CV.asS x7) fun s104 =>
 optO (CV.asS x9) fun s105 =>
 bif (s104 == s105) then
 (chkO (room (l101.length + 1) 8) (
 some (.list (b100 && false) (l101 ++ [[CV.int .i64 2]]))))
 else
 (some (.list b100 l101))) := (hold_eq _).trans (by kernel_rfl)

theorem r06_distance_J3_eq (lb : Bool) (n : Nat) (aairn1 : Bool) (aair2 : List (List CV)) (adisn3 : Bool) (adis4 : List (List CV)) (b5 : Int) (b36 : Bool) (l37 : List (List CV)) (x15 : CV) (x27 : CV) (c6 : List CV) (x7 : CV) (x9 : CV) (x10 : CV) (r11 : CV) (x13 : CV) (r23 : CV) (x25 : CV) (x18 : CV) (x19 : CV) (x20 : CV) (x21 : CV) (x22 : CV) (x29 : CV) (x30 : CV) (x31 : CV) (x33 : CV) (x34 : CV) (b98 : Bool) (i99 : Int) :
  r06_distance_J3 lb n aairn1 aair2 adisn3 adis4 b5 b36 l37 x15 x27 c6 x7 x9 x10 r11 x13 r23 x25 x18 x19 x20 x21 x22 x29 x30 x31 x33 x34 b98 i99 =
 bif b98 then
 (chkO (room (l37.length + 1) 8) (
 r06_distance_J4 lb n aairn1 aair2 adisn3 adis4 b5 x15 x27 b98 i99 c6 x7 x9 x10 r11 x13 r23 x25 x18 x19 x20 x21 x22 x29 x30 x31 x33 x34 (b36 && false) (l37 ++ [[CV.int .i64 6]])))
 else
 (r06_distance_J4 lb n aairn1 aair2 adisn3 adis4 b5 x15 x27 b98 i99 c6 x7 x9 x10 r11 x13 r23 x25 x18 x19 x20 x21 x22 x29 x30 x31 x33 x34 b36 l37) := (hold_eq _).trans (by kernel_rfl)

theorem r06_distance_L2_succ (lb : Bool) (n k81 : Nat) (aairn1 : Bool) (aair2 : List (List CV)) (adisn3 : Bool) (adis4 : List (List CV)) (b5 : Int) (b36 : Bool) (l37 : List (List CV)) (x15 : CV) (x27 : CV) (c6 : List CV) (x7 : CV) (x9 : CV) (x10 : CV) (r11 : CV) (x13 : CV) (r23 : CV) (x25 : CV) (x18 : CV) (x19 : CV) (x20 : CV) (x21 : CV) (x22 : CV) (x29 : CV) (x30 : CV) (x31 : CV) (x33 : CV) (x34 : CV) (b62 : Bool) (i63 : Int) :
  r06_distance_L2 lb n (k81 + 1) aairn1 aair2 adisn3 adis4 b5 b36 l37 x15 x27 c6 x7 x9 x10 r11 x13 r23 x25 x18 x19 x20 x21 x22 x29 x30 x31 x33 x34 b62 i63 =
 bif (decide (i63 < b5)) then
 (optO (atL adis4 i63) fun c82 =>
 chkO (c82.length == 3) (
 optO (c82[0]?) fun x83 =>
 optO (c82[1]?) fun x84 =>
 optO (c82[2]?) fun x85 =>
 bif b62 then
 (r06_distance_L2 lb n k81 aairn1 aair2 adisn3 adis4 b5 b36 l37 x15 x27 c6 x7 x9 x10 r11 x13 r23 x25 x18 x19 x20 x21 x22 x29 x30 x31 x33 x34 true (IntKind.wrap .i64 (i63 + 1)))
 else
 (optO (CV.asS x83) fun s86 =>
 optO (CV.asS x7) fun s87 =>
 bif (s86 == s87) then
 (optO (CV.asS x84) fun s88 =>
 optO (CV.asS x9) fun s89 =>
 bif (s88 == s89) then
 (r06_distance_L2 lb n k81 aairn1 aair2 adisn3 adis4 b5 b36 l37 x15 x27 c6 x7 x9 x10 r11 x13 r23 x25 x18 x19 x20 x21 x22 x29 x30 x31 x33 x34 true (IntKind.wrap .i64 (i63 + 1)))
 else
 (optO (CV.asS x83) fun s90 =>
 optO (CV.asS x9) fun s91 =>
 bif (s90 == s91) then
 (optO (CV.asS x84) fun s92 =>
 optO (CV.asS x7) fun s93 =>
 r06_distance_L2 lb n k81 aairn1 aair2 adisn3 adis4 b5 b36 l37 x15 x27 c6 x7 x9 x10 r11 x13 r23 x25 x18 x19 x20 x21 x22 x29 x30 x31 x33 x34 (s92 == s93) (IntKind.wrap .i64 (i63 + 1)))
 else
 (r06_distance_L2 lb n k81 aairn1 aair2 adisn3 adis4 b5 b36 l37 x15 x27 c6 x7 x9 x10 r11 x13 r23 x25 x18 x19 x20 x21 x22 x29 x30 x31 x33 x34 false (IntKind.wrap .i64 (i63 + 1)))))
 else
 (optO (CV.asS x83) fun s94 =>
 optO (CV.asS x9) fun s95 =>
 bif (s94 == s95) then
 (optO (CV.asS x84) fun s96 =>
 optO (CV.asS x7) fun s97 =>
 r06_distance_L2 lb n k81 aairn1 aair2 adisn3 adis4 b5 b36 l37 x15 x27 c6 x7 x9 x10 r11 x13 r23 x25 x18 x19 x20 x21 x22 x29 x30 x31 x33 x34 (s96 == s97) (IntKind.wrap .i64 (i63 + 1)))
 else
 (r06_distance_L2 lb n k81 aairn1 aair2 adisn3 adis4 b5 b36 l37 x15 x27 c6 x7 x9 x10 r11 x13 r23 x25 x18 x19 x20 x21 x22 x29 x30 x31 x33 x34 false (IntKind.wrap .i64 (i63 + 1)))))))
 else
 (r06_distance_J3 lb n aairn1 aair2 adisn3 adis4 b5 b36 l37 x15 x27 c6 x7 x9 x10 r11 x13 r23 x25 x18 x19 x20 x21 x22 x29 x30 x31 x33 x34 b62 i63) := (hold_eq _).trans (by kernel_rfl)

theorem r06_distance_L2_zero (lb : Bool) (n : Nat) (aairn1 : Bool) (aair2 : List (List CV)) (adisn3 : Bool) (adis4 : List (List CV)) (b5 : Int) (b36 : Bool) (l37 : List (List CV)) (x15 : CV) (x27 : CV) (c6 : List CV) (x7 : CV) (x9 : CV) (x10 : CV) (r11 : CV) (x13 : CV) (r23 : CV) (x25 : CV) (x18 : CV) (x19 : CV) (x20 : CV) (x21 : CV) (x22 : CV) (x29 : CV) (x30 : CV) (x31 : CV) (x33 : CV) (x34 : CV) (b62 : Bool) (i63 : Int) :
  r06_distance_L2 lb n 0 aairn1 aair2 adisn3 adis4 b5 b36 l37 x15 x27 c6 x7 x9 x10 r11 x13 r23 x25 x18 x19 x20 x21 x22 x29 x30 x31 x33 x34 b62 i63 =
 none := (hold_eq _).trans (by kernel_rfl)

theorem r06_distance_J1_eq (lb : Bool) (n : Nat) (aairn1 : Bool) (aair2 : List (List CV)) (adisn3 : Bool) (adis4 : List (List CV)) (b5 : Int) (x15 : CV) (x27 : CV) (c6 : List CV) (x7 : CV) (x9 : CV) (x10 : CV) (r11 : CV) (x13 : CV) (r23 : CV) (x25 : CV) (x18 : CV) (x19 : CV) (x20 : CV) (x21 : CV) (x22 : CV) (x29 : CV) (x30 : CV) (x31 : CV) (x33 : CV) (x34 : CV) (b36 : Bool) (l37 : List (List CV)) :
  r06_distance_J1 lb n aairn1 aair2 adisn3 adis4 b5 x15 x27 c6 x7 x9 x10 r11 x13 r23 x25 x18 x19 x20 x21 x22 x29 x30 x31 x33 x34 b36 l37 =
 r06_distance_L2 lb n n aairn1 aair2 adisn3 adis4 b5 b36 l37 x15 x27 c6 x7 x9 x10 r11 x13 r23 x25 x18 x19 x20 x21 x22 x29 x30 x31 x33 x34 false 0 := (hold_eq _).trans (by kernel_rfl)

theorem r06_distance_eq (lb : Bool) (n : Nat) (aairn1 : Bool) (aair2 : List (List CV)) (adisn3 : Bool) (adis4 : List (List CV)) (b5 : Int) :
  top lb n F_r06_distance [.agg [.list aairn1 aair2, .list adisn3 adis4], .int .i64 b5] =
 optO (atL adis4 b5) fun c6 =>
 chkO (c6.length == 3) (
 optO (c6[0]?) fun x7 =>
 optO (c6[1]?) fun x9 =>
 optO (c6[2]?) fun x10 =>
 optO (C lb n F_r06_town [.agg [.list aairn1 aair2, .list adisn3 adis4], x7]) fun r11 =>
 optO (CV.asT r11) fun t12 =>
 optO (t12[0]?) fun x13 =>
 optO (CV.asT r11) fun t14 =>
 optO (t14[1]?) fun x15 =>
 optO (CV.asA x13) fun c17 =>
 chkO (c17.length == 5) (
 optO (c17[0]?) fun x18 =>
 optO (c17[1]?) fun x19 =>
 optO (c17[2]?) fun x20 =>
 optO (c17[3]?) fun x21 =>
 optO (c17[4]?) fun x22 =>
 optO (C lb n F_r06_town [.agg [.list aairn1 aair2, .list adisn3 adis4], x9]) fun r23 =>
 optO (CV.asT r23) fun t24 =>
 optO (t24[0]?) fun x25 =>
 optO (CV.asT r23) fun t26 =>
 optO (t26[1]?) fun x27 =>
 optO (CV.asA x25) fun c28 =>
 chkO (c28.length == 5) (
 optO (c28[0]?) fun x29 =>
 optO (c28[1]?) fun x30 =>
 optO (c28[2]?) fun x31 =>
 optO (c28[3]?) fun x33 =>
 optO (c28[4]?) fun x34 =>
 optO (CV.asB x15) fun b35 =>
 bif (!b35) then
 (r06_distance_J1 lb n aairn1 aair2 adisn3 adis4 b5 x15 x27 c6 x7 x9 x10 r11 x13 r23 x25 x18 x19 x20 x21 x22 x29 x30 x31 x33 x34 false [[CV.int .i64 14]])
 else
 (optO (CV.asB x27) fun b106 =>
 bif (!b106) then
 (r06_distance_J1 lb n aairn1 aair2 adisn3 adis4 b5 x15 x27 c6 x7 x9 x10 r11 x13 r23 x25 x18 x19 x20 x21 x22 x29 x30 x31 x33 x34 false [[CV.int .i64 14]])
 else
 (r06_distance_J1 lb n aairn1 aair2 adisn3 adis4 b5 x15 x27 c6 x7 x9 x10 r11 x13 r23 x25 x18 x19 x20 x21 x22 x29 x30 x31 x33 x34 true []))))) := by kernel_rfl

/-! airline/airlineref06.town -/
noncomputable def r06_town_L1 (lb : Bool) (n : Nat) (k27 : Nat) (aairn1 : Bool) (aair2 : List (List CV)) (adisn3 : Bool) (adis4 : List (List CV)) (b5 : List UInt8) (i17 : Int) : Option CV :=
  hold (loopC (E0 lb n 0 995) 0 (loopTemps (sub (B F_r06_town) [1, 0, 1, 0, 0]) ++ []) [] (sub (B F_r06_town) [1, 0, 1, 0, 0]) (blockK 0 (seqK (E0 lb n 0 998) (sub (B F_r06_town) [1, 0]) (sub (B F_r06_town) [1, 1]) (retK Tryd.prog (R F_r06_town) 0 (outK (tightF Tryd.prog F_r06_town))))) k27 ⟨fr 28 [(0, .val (.agg [.list aairn1 aair2, .list adisn3 adis4])), (1, .val (.str b5)), (2, .ptr 0 2 0), (4, .ptr 0 4 0), (5, .val (.bool false)), (6, .val (.int .i64 i17))], [bx 28 [(2, some [.val (.list aairn1 aair2), .val (.list adisn3 adis4)]), (4, some [.val (.str []), .val (.str []), .val (.str []), .val (.int .i64 0), .lst true true 110 []])]], KK⟩)

noncomputable def r06_town_J2 (lb : Bool) (n : Nat) (aairn1 : Bool) (aair2 : List (List CV)) (adisn3 : Bool) (adis4 : List (List CV)) (b5 : List UInt8) (i38 : Int) : Option CV :=
  hold (E0 lb n 0 998 (sub (B F_r06_town) [1, 1]) (retK Tryd.prog (R F_r06_town) 0 (outK (tightF Tryd.prog F_r06_town))) ⟨fr 28 [(0, .val (.agg [.list aairn1 aair2, .list adisn3 adis4])), (1, .val (.str b5)), (2, .ptr 0 2 0), (4, .ptr 0 4 0), (5, .val (.bool false)), (6, .val (.int .i64 i38))], [bx 28 [(2, some [.val (.list aairn1 aair2), .val (.list adisn3 adis4)]), (4, some [.val (.str []), .val (.str []), .val (.str []), .val (.int .i64 0), .lst true true 110 []])]], KK⟩)

theorem r06_town_J2_eq (lb : Bool) (n : Nat) (aairn1 : Bool) (aair2 : List (List CV)) (adisn3 : Bool) (adis4 : List (List CV)) (b5 : List UInt8) (i38 : Int) :
  r06_town_J2 lb n aairn1 aair2 adisn3 adis4 b5 i38 =
 some (.tup [.agg [.str [], .str [], .str [], .int .i64 0, .list true []], .bool false]) := (hold_eq _).trans (by kernel_rfl)

theorem r06_town_L1_succ (lb : Bool) (n k27 : Nat) (aairn1 : Bool) (aair2 : List (List CV)) (adisn3 : Bool) (adis4 : List (List CV)) (b5 : List UInt8) (i17 : Int) :
  r06_town_L1 lb n (k27 + 1) aairn1 aair2 adisn3 adis4 b5 i17 =
 bif (decide (i17 < (aair2.length : Int))) then
 (optO (atL aair2 i17) fun c28 =>
 chkO (c28.length == 5) (
 optO (c28[1]?) fun x29 =>
 optO (CV.asS x29) fun s30 =>
 bif (s30 == b5) then
 (optO (atL aair2 i17) fun c31 =>
 chkO (c31.length == 5) (
 optO (c31[0]?) fun x33 =>
 optO (c31[1]?) fun x34 =>
 optO (c31[2]?) fun x35 =>
 optO (c31[3]?) fun x36 =>
 optO (c31[4]?) fun x37 =>
 some (.tup [.agg [x33, x34, x35, x36, x37], .bool true])))
 else
 (r06_town_L1 lb n k27 aairn1 aair2 adisn3 adis4 b5 (IntKind.wrap .i64 (i17 + 1)))))
 else
 (r06_town_J2 lb n aairn1 aair2 adisn3 adis4 b5 i17) := (hold_eq _).trans (by kernel_rfl)

theorem r06_town_L1_zero (lb : Bool) (n : Nat) (aairn1 : Bool) (aair2 : List (List CV)) (adisn3 : Bool) (adis4 : List (List CV)) (b5 : List UInt8) (i17 : Int) :
  r06_town_L1 lb n 0 aairn1 aair2 adisn3 adis4 b5 i17 =
 none := (hold_eq _).trans (by kernel_rfl)

theorem r06_town_eq (lb : Bool) (n : Nat) (aairn1 : Bool) (aair2 : List (List CV)) (adisn3 : Bool) (adis4 : List (List CV)) (b5 : List UInt8) :
  top lb n F_r06_town [.agg [.list aairn1 aair2, .list adisn3 adis4], .str b5] =
 r06_town_L1 lb n n aairn1 aair2 adisn3 adis4 b5 0 := by kernel_rfl

/-! airline/airlineref06.Usable -/
theorem r06_Usable_eq (lb : Bool) (n : Nat) (afro1 : List UInt8) (ato2 : List UInt8) (amil3 : Int) :
  top lb n F_r06_Usable [.agg [.str afro1, .str ato2, .int .i64 amil3]] =
 bif (decide (amil3 ≥ 1)) then
 (some (.bool (decide (amil3 ≤ 20000))))
 else
 (some (.bool false)) := by kernel_rfl

/-! airline/airlineref05.Check -/
noncomputable def r05_Check_L1 (lb : Bool) (n : Nat) (k29 : Nat) (aoff1 : Int) (ashin2 : Bool) (ashi3 : List (List CV)) (i14 : Int) : Option CV :=
  hold (loopC (E0 lb n 0 993) 0 (loopTemps (sub (B F_r05_Check) [1, 1, 1, 0, 1, 0, 0]) ++ []) [4] (sub (B F_r05_Check) [1, 1, 1, 0, 1, 0, 0]) (blockK 0 (seqK (E0 lb n 0 996) (sub (B F_r05_Check) [1, 1, 1, 0]) (sub (B F_r05_Check) [1, 1, 1, 1]) (retK Tryd.prog (R F_r05_Check) 0 (outK (tightF Tryd.prog F_r05_Check))))) k29 ⟨fr 54 [(0, .val (.agg [.int .i64 aoff1, .list ashin2 ashi3])), (1, .ptr 0 1 0), (2, .val (.int .i64 0)), (3, .val (.int .i64 i14))], [bx 54 [(1, some [.val (.int .i64 aoff1), .val (.list ashin2 ashi3)])]], KK⟩)

noncomputable def r05_Check_J2 (lb : Bool) (n : Nat) (aoff1 : Int) (ashin2 : Bool) (ashi3 : List (List CV)) (i44 : Int) : Option CV :=
  hold (E0 lb n 0 996 (sub (B F_r05_Check) [1, 1, 1, 1]) (retK Tryd.prog (R F_r05_Check) 0 (outK (tightF Tryd.prog F_r05_Check))) ⟨fr 54 [(0, .val (.agg [.int .i64 aoff1, .list ashin2 ashi3])), (1, .ptr 0 1 0), (2, .val (.int .i64 0)), (3, .val (.int .i64 i44))], [bx 54 [(1, some [.val (.int .i64 aoff1), .val (.list ashin2 ashi3)])]], KK⟩)

theorem r05_Check_J2_eq (lb : Bool) (n : Nat) (aoff1 : Int) (ashin2 : Bool) (ashi3 : List (List CV)) (i44 : Int) :
  r05_Check_J2 lb n aoff1 ashin2 ashi3 i44 =
 some (.int .i64 0) := (hold_eq _).trans (by kernel_rfl)

theorem r05_Check_L1_succ (lb : Bool) (n k29 : Nat) (aoff1 : Int) (ashin2 : Bool) (ashi3 : List (List CV)) (i14 : Int) :
  r05_Check_L1 lb n (k29 + 1) aoff1 ashin2 ashi3 i14 =
 bif (decide (i14 < (ashi3.length : Int))) then
 (optO (atL ashi3 i14) fun c30 =>
 chkO (c30.length == 2) (
 optO (c30[0]?) fun x31 =>
 optO (c30[1]?) fun x33 =>
 optO (CV.asI .i64 x31) fun i34 =>
 bif (decide (i34 < 0)) then
 (some (.int .i64 13))
 else
 (optO (CV.asI .i64 x31) fun i35 =>
 bif (decide (i35 ≥ 52596000)) then
 (some (.int .i64 13))
 else
 (bif (decide (i14 > 0)) then
 (optO (atL ashi3 (IntKind.wrap .i64 (i14 - 1))) fun c36 =>
 chkO (c36.length == 2) (
 optO (c36[0]?) fun x37 =>
 optO (CV.asI .i64 x31) fun i38 =>
 optO (CV.asI .i64 x37) fun i39 =>
 bif (decide ((IntKind.wrap .i64 (i38 - i39)) < 2880)) then
 (some (.int .i64 13))
 else
 (optO (C lb n F_r05_offset [x33]) fun r40 =>
 optO (CV.asB r40) fun b41 =>
 bif (!b41) then
 (some (.int .i64 2))
 else
 (r05_Check_L1 lb n k29 aoff1 ashin2 ashi3 (IntKind.wrap .i64 (i14 + 1))))))
 else
 (optO (C lb n F_r05_offset [x33]) fun r42 =>
 optO (CV.asB r42) fun b43 =>
 bif (!b43) then
 (some (.int .i64 2))
 else
 (r05_Check_L1 lb n k29 aoff1 ashin2 ashi3 (IntKind.wrap .i64 (i14 + 1))))))))
 else
 (r05_Check_J2 lb n aoff1 ashin2 ashi3 i14) := (hold_eq _).trans (by kernel_rfl)

theorem r05_Check_L1_zero (lb : Bool) (n : Nat) (aoff1 : Int) (ashin2 : Bool) (ashi3 : List (List CV)) (i14 : Int) :
  r05_Check_L1 lb n 0 aoff1 ashin2 ashi3 i14 =
 none := (hold_eq _).trans (by kernel_rfl)

theorem r05_Check_eq (lb : Bool) (n : Nat) (aoff1 : Int) (ashin2 : Bool) (ashi3 : List (List CV)) :
  top lb n F_r05_Check [.agg [.int .i64 aoff1, .list ashin2 ashi3]] =
 bif (decide ((ashi3.length : Int) > 256)) then
 (some (.int .i64 4))
 else
 (optO (C lb n F_r05_offset [.int .i64 aoff1]) fun r4 =>
 optO (CV.asB r4) fun b5 =>
 bif (!b5) then
 (some (.int .i64 2))
 else
 (r05_Check_L1 lb n n aoff1 ashin2 ashi3 0)) := by kernel_rfl

/-! airline/airlineref05.offset -/
theorem r05_offset_eq (lb : Bool) (n : Nat) (a1 : Int) :
  top lb n F_r05_offset [.int .i64 a1] =
 bif (decide (a1 ≥ (-840))) then
 (some (.bool (decide (a1 ≤ 840))))
 else
 (some (.bool false)) := by kernel_rfl

end Go.Proofs
